/-
  Regions: in the order of the text, and in every order that their edges allow.
-/
import Derived.Test.YtodhjdbleiakeaaGreatDoorLAG
import Derived.OrdersIn
set_option linter.unusedSimpArgs false
set_option linter.unusedVariables false
namespace Cx
open Go Go.RowKit
def ji (S:St):Sh→Sh
 |.opt gs s=>.opt gs (ei S s)
 |s=>ei S s
def St.snapO (n:Nat)(ids:List Nat)(S:St):Snap:=⟨(List.range n).map fun t=>ji S (S.r t),ids.map fun j=>fV S (S.o j)⟩
def Snap.stO (ids:List Nat)(s:Snap):St:=⟨fun t=>s.rs.getD t .none,fun j=>cO ids s.os j,fun _=>0⟩
theorem pA (S:St)(s:Sh):∀gs s',ei S s≠.opt gs s':=by
 intro gs s' e;cases s<;>simp only[ei] at e<;>first|cases e|(revert e;cases Nat.beq _ _<;>intro e<;>cases e)|(revert e;cases List.all _ _<;>intro e<;>cases e)
section
variable {C:Ctx} {S:St} {ρ:Env} {σ:Im} {own:Nat→Option Nat} {hv:Nat→Value} {w0:World} {σ0:Base} {A:Nat→Prop} {a:Act} {w:World} {n:Nat} {ids:List Nat} {Φ:aL}
theorem ar7 {s:Sh}{v:Value}{d:D}(h:aI C S ρ σ hv s v d){T:St}(hT:T.ver=fun _=>0):aI C T ρ σ hv (ji S s) v d:=by
 have hc:Compat S.norm hv T hv:=⟨fun j=>by rw[hT];exact Nat.zero_le _,fun _ _=>rfl⟩
 have key:∀s,aI C S ρ σ hv s v d→aI C T ρ σ hv (ei S s) v d:=fun s hs=>aI.mono' (.refl σ) hc (pA S s) (E7 hs).1;cases s with
 |opt gs s=>exact⟨fun hh=>key s (h.1 hh),h.2⟩
 |_=>exact key _ h
theorem Good.snapO (h:Good C w0 σ0 S ρ A a w)(n:Nat)(ids:List Nat):Good C w0 σ0 ((S.snapO n ids).stO ids) ρ A a w:=by
 obtain⟨σ,own,hv,h⟩:=h;have h1:=h.norm;have hc:Compat S.norm hv ((S.snapO n ids).stO ids) hv:=⟨fun _=>Nat.le_refl _,fun _ _=>rfl⟩
 refine⟨σ,own,hv,h.defers,h.ok,h.le,h.old,h.newc,h.newm,h.below,h.bw,h.owns,fun t=>?_,fun j=>?_,fun t gs s e=>?_,?_⟩
 rotate_right
 ·obtain⟨t,fx,cx,f1,f5⟩:=h.frame;refine⟨t,fx,cx,f1,fun j hj=>f5 j ?_⟩;exact sV (fun j=>fV S (S.o j)) (fun ob=>ob=.tr→S.o j=.tr) (fun e=>by cases e) j YA ids hj
 ·show aI C _ ρ σ hv (((List.range n).map fun t=>ji S (S.r t)).getD t .none) _ _;rw[List.getD_eq_getElem?_getD,List.getElem?_map];by_cases ht:t<n
  ·rw[List.getElem?_range ht];exact ar7 (h.regs t) rfl
  ·rw[List.getElem?_eq_none (by simpa using ht)];trivial
 ·have ho:=(h1.objs j).mono (.refl σ) hc (w:=w) (w':=w) rfl rfl (fun k hk=>⟨hk,rfl⟩);exact sV (fun j=>fV S (S.o j)) (fun ob=>bQ C _ ρ σ own hv w w0.heap.size j ob) trivial j ho ids
 ·change ((List.range n).map fun t=>ji S (S.r t)).getD t .none=.opt gs s at e;rw[List.getD_eq_getElem?_getD,List.getElem?_map] at e;by_cases ht:t<n
  ·rw[List.getElem?_range ht] at e;simp only[Option.map_some,Option.getD_some] at e;cases hs:S.r t with
   |opt bA s'=>
    rw[hs] at e;simp only[ji,Sh.opt.injEq] at e;obtain⟨rfl,rfl⟩:=e;exact⟨(h.opts t bA s' hs).1,pA S s'⟩
   |none=>rw[hs] at e;exact absurd e (pA S .none gs s)
   |yv=>rw[hs] at e;exact absurd e (pA S .yv gs s)
   |fclo f c=>rw[hs] at e;exact absurd e (pA S (.fclo f c) gs s)
   |dat t=>rw[hs] at e;exact absurd e (pA S (.dat t) gs s)
   |obj t u=>rw[hs] at e;exact absurd e (pA S (.obj t u) gs s)
   |ptr t u v=>rw[hs] at e;exact absurd e (pA S (.ptr t u v) gs s)
   |eptr t u v x=>rw[hs] at e;exact absurd e (pA S (.eptr t u v x) gs s)
  ·rw[List.getElem?_eq_none (by simpa using ht)] at e;cases e
theorem Good.snapF (h:Good C w0 σ0 S ρ A a w)(n:Nat)(ids:List Nat):Good C w0 σ0 ((S.snap n ids).st ids) ρ (fun _=>False) a w:=by
 obtain⟨σ,own,hv,h⟩:=h;exact⟨σ,own,hv,h.snap n ids⟩
theorem Good.drew (h:Good C w0 σ0 S ρ A a w):Good C w0 σ0 S ρ A a {w with drawn:=w.drawn+1}:=by
 obtain⟨σ,own,hv,h⟩:=h;refine⟨σ,own,hv,h.defers,⟨fun k o v e=>h.ok.c k o v e,fun k es e=>h.ok.m k es e⟩,h.le,h.old,h.newc,h.newm,h.below.drew,h.bw,h.owns,h.regs,fun j=>?_,h.opts,?_⟩
 rotate_right
 ·obtain⟨t,fx,cx,f1,f2⟩:=h.frame;exact⟨t,fx,cx,⟨σ0.keep _ _ _ _ _ f1.F (Below.drew (.refl _ _)) (fun _ _=>rfl),f1.own,f1.c,f1.m,f1.d⟩,f2⟩
 exact(h.objs j).mono (.refl σ) (.refl S hv) rfl rfl (fun k hk=>⟨hk,rfl⟩)
end
def rq (g:Sh→Sh)(S:St)(rs:List Sh)(ds:List Nat):List Sh:=(ds.foldl (fun l d=>l.set d (S.r d)) rs).map g
theorem UB (S:St):∀(ds:List Nat) (rs:List Sh),(ds.foldl (fun l d=>l.set d (S.r d)) rs).length=rs.length∧∀t,t<rs.length→(ds.foldl (fun l d=>l.set d (S.r d)) rs).getD t .none=if t∈ds then S.r t else rs.getD t .none
 |[],rs=>⟨rfl,fun t _=>by simp⟩
 |d::ds,rs=>by
  obtain⟨h1,h2⟩:=UB S ds (rs.set d (S.r d));simp only[List.length_set] at h1 h2;refine⟨h1,fun t ht=>?_⟩;rw[List.foldl_cons,h2 t ht];simp only[List.mem_cons,List.getD_eq_getElem?_getD,List.getElem?_set];by_cases hm:t∈ds
  ·simp[hm]
  ·by_cases e:d=t
   ·subst e;simp[hm,ht]
   ·have e':¬t=d:=fun h=>e h.symm;simp[hm,e,e']
theorem B0 {g:Sh→Sh}{S:St}{rs:List Sh}{ds:List Nat}(h:∀t,t∉ds→g (rs.getD t .none)=g (S.r t)):rq g S rs ds=(List.range rs.length).map fun t=>g (S.r t):=by
 obtain⟨h1,h2⟩:=UB S ds rs;unfold rq;apply List.ext_getElem?;intro t;simp only[List.getElem?_map];by_cases ht:t<rs.length
 ·have:=h2 t ht;rw[List.getD_eq_getElem?_getD,List.getElem?_eq_getElem (by omega)] at this;rw[List.getElem?_eq_getElem (by omega),List.getElem?_range ht];simp only[Option.getD_some,Option.map_some] at this ⊢;rw[this];by_cases hm:t∈ds
  ·simp[hm]
  ·simp only[hm,if_false];rw[h t hm]
 ·rw[List.getElem?_eq_none (by omega),List.getElem?_eq_none (by simpa using ht)];rfl
def Sh.hd {α:Type}(s:Sh)(k:Sh→α):α:=
 match s with
 |.none=>k .none
 |.dat t=>k (.dat t)
 |.obj j v=>k (.obj j v)
 |.ptr j v o=>k (.ptr j v o)
 |.eptr j v z o=>k (.eptr j v z o)
 |.opt gs s=>k (.opt gs s)
 |.yv=>k .yv
 |.fclo f c=>k (.fclo f c)
theorem Sh.hd_eq {α:Type}(s:Sh)(k:Sh→α):s.hd k=k s:=by cases s<;>rfl
def uR {α:Type}:List Sh→(List Sh→α)→α
 |[],k=>k []
 |s::l,k=>s.hd fun s=>uR l fun l=>k (s::l)
theorem KG {α:Type}:∀(l:List Sh) (k:List Sh→α),uR l k=k l
 |[],_=>rfl
 |s::l,k=>by rw[uR,Sh.hd_eq,KG l]
def Ob.hd {α:Type}(s:Ob)(k:Ob→α):α:=
 match s with
 |.dead=>k .dead
 |.fz t=>k (.fz t)
 |.fbox t=>k (.fbox t)
 |.box true l=>uR l fun l=>k (.box true l)
 |.box false l=>uR l fun l=>k (.box false l)
 |.row T e=>k (.row T e)
 |.mp a b=>k (.mp a b)
 |.it a b=>k (.it a b)
 |.tr=>k .tr
theorem Ob.hd_eq {α:Type}(s:Ob)(k:Ob→α):s.hd k=k s:=by
 cases s with
 |box ag l=>cases ag<;>simp only[Ob.hd,KG]
 |_=>rfl
def DZ {α:Type}:List Ob→(List Ob→α)→α
 |[],k=>k []
 |s::l,k=>s.hd fun s=>DZ l fun l=>k (s::l)
theorem UY {α:Type}:∀(l:List Ob) (k:List Ob→α),DZ l k=k l
 |[],_=>rfl
 |s::l,k=>by rw[DZ,Ob.hd_eq,UY l]
def Snap.hard {α:Type}(s:Snap)(k:Snap→α):α:=uR s.rs fun a=>DZ s.os fun b=>k ⟨a,b⟩
theorem Snap.hard_eq {α:Type}(s:Snap)(k:Snap→α):s.hard k=k s:=by rw[Snap.hard,KG,UY]
def D0 {α β:Type}:List β→(List β→α)→α
 |[],k=>k []
 |s::l,k=>D0 l fun l=>k (s::l)
theorem U0 {α β:Type}:∀(l:List β) (k:List β→α),D0 l k=k l
 |[],_=>rfl
 |s::l,k=>by rw[D0,U0 l]
def zm {α β:Type}:List (List β)→(List (List β)→α)→α
 |[],k=>k []
 |s::l,k=>D0 s fun s=>zm l fun l=>k (s::l)
theorem UZ {α β:Type}:∀(l:List (List β)) (k:List (List β)→α),zm l k=k l
 |[],_=>rfl
 |s::l,k=>by rw[zm,U0,UZ l]
def az (P:Program){α:Type}(s:Sem α):Prop:=(∃a,∀w,s.run P w=.ok a w)∨∀w,∃h w',s.run P w=.halt h w'
section
variable {P:Program}
theorem az.pure {α:Type}(a:α):az P (Sem.pure a):=.inl ⟨a,fun w=>rfl⟩
theorem az.pure' {α:Type}(a:α):az P (Pure.pure a:Sem α):=.inl ⟨a,fun w=>rfl⟩
theorem az.halt {α:Type}(h:Halt):az P (Sem.halt h:Sem α):=.inr fun w=>⟨h,w,rfl⟩
theorem az.bind' {α β:Type}{s:Sem α}{f:α→Sem β}(h:az P s)(hf:∀a,(∀w,s.run P w=.ok a w)→az P (f a)):az P (s>>=f):=by
 rcases h with⟨a,ha⟩|hd
 ·rcases hf a ha with⟨b,hb⟩|hd
  ·exact .inl ⟨b,fun w=>by rw[Sem.run_bind,ha w];exact hb w⟩
  ·refine .inr fun w=>?_;obtain⟨x,w',e⟩:=hd w;exact⟨x,w',by rw[Sem.run_bind,ha w];exact e⟩
 ·refine .inr fun w=>?_;obtain⟨x,w',e⟩:=hd w;exact⟨x,w',by rw[Sem.run_bind,e];rfl⟩
theorem az.bind {α β:Type}{s:Sem α}{f:α→Sem β}(h:az P s)(hf:∀a,az P (f a)):az P (s>>=f):=h.bind' fun a _=>hf a
def bP {α:Type}(s:Sem α):Prop:=∀P w,∃h w',s.run P w=.halt h w'
theorem bP.noW {α:Type}{s:Sem α}(h:bP s):az P s:=.inr (h P)
theorem bP.halt {α:Type}(h:Halt):bP (Sem.halt h:Sem α):=fun P w=>⟨h,w,rfl⟩
theorem bP.of_bind {α β:Type}{s:Sem α}{f:α→Sem β}(hf:∀a,bP (f a)):bP (s>>=f):=by
 intro P w;rw[Sem.run_bind];cases e:s.run P w with
 |ok a w'=>exact hf a P w'
 |halt h w'=>exact⟨h,w',rfl⟩
theorem az.asBool (v:Value):az P (Go.asBool v):=by
 cases v<;>first|exact .pure _|exact .halt _
theorem az.asIntOf (v:Value):az P (Go.asIntOf v):=by
 unfold Go.asIntOf;split<;>first|exact .pure _|exact .halt _
theorem az.sureAddr (v:Value):az P (Instr.sureAddr v):=by
 unfold Instr.sureAddr;split<;>first|exact .pure _|exact .halt _
theorem az.prog:az P Go.program:=.inl ⟨P,fun w=>rfl⟩
theorem az.underlying (t:TypeId):az P (Go.underlying t):=by
 unfold Go.underlying;refine .bind .prog fun p=>?_;split<;>first|exact .pure _|exact .halt _
theorem az.sizeOf (t:TypeId):az P (Go.sizeOf t):=by
 unfold Go.sizeOf Go.typeInfo;refine .bind (.bind .prog fun p=>?_) fun _=>.pure _;split<;>first|exact .pure _|exact .halt _
theorem bP.runtimePanic {α:Type}(e:RuntimeError):bP (Go.runtimePanic e:Sem α):=by
 unfold Go.runtimePanic;refine .of_bind fun p=>?_;cases e<;>first|exact .halt _|exact .of_bind fun _=>.halt _|exact .of_bind fun _=>.of_bind fun _=>.halt _
theorem bP.boundsPanic {α:Type}(k:IntKind)(x y:Int)(c:BoundsCode):bP (Go.boundsPanic k x y c:Sem α):=by
 unfold Go.boundsPanic;dsimp only;split<;>exact .of_bind fun _=>.runtimePanic _
theorem az.indexAt (t:TypeId)(x i:Value):az P (Instr.indexAt t x i):=by
 unfold Instr.indexAt
 repeat' (first|(first|exact az.pure _|exact az.pure' _|exact az.halt _|exact bP.noW (bP.boundsPanic _ _ _ _)|exact bP.noW (bP.runtimePanic _)|exact az.prog|exact az.underlying _|exact az.sizeOf _|exact az.asIntOf _|exact az.sureAddr _|exact az.asBool _)|(refine az.bind ?_ fun _=>?_)|dsimp only|split)
theorem az.sliceBound (x:Value)(y:Nat)(c:BoundsCode):az P (Instr.sliceBound x y c):=by
 unfold Instr.sliceBound
 repeat' (first|(first|exact az.pure _|exact az.pure' _|exact az.halt _|exact bP.noW (bP.boundsPanic _ _ _ _)|exact bP.noW (bP.runtimePanic _)|exact az.prog|exact az.underlying _|exact az.sizeOf _|exact az.asIntOf _|exact az.sureAddr _|exact az.asBool _)|(refine az.bind ?_ fun _=>?_)|dsimp only|split)
theorem az.sliceBounds (b:Bool)(n m:Nat)(lo hi mx:Option Value):az P (Instr.sliceBounds b n m lo hi mx):=by
 unfold Instr.sliceBounds
 repeat' (first|exact az.sliceBound _ _ _|(first|exact az.pure _|exact az.pure' _|exact az.halt _|exact bP.noW (bP.boundsPanic _ _ _ _)|exact bP.noW (bP.runtimePanic _)|exact az.prog|exact az.underlying _|exact az.sizeOf _|exact az.asIntOf _|exact az.sureAddr _|exact az.asBool _)|(refine az.bind ?_ fun _=>?_)|dsimp only|split)
theorem az.asAddr (v:Value):az P (Go.asAddr v):=by
 unfold Go.asAddr
 repeat' (first|(first|exact az.pure _|exact az.pure' _|exact az.halt _|exact bP.noW (bP.boundsPanic _ _ _ _)|exact bP.noW (bP.runtimePanic _)|exact az.prog|exact az.underlying _|exact az.sizeOf _|exact az.asIntOf _|exact az.sureAddr _|exact az.asBool _)|(refine az.bind ?_ fun _=>?_)|dsimp only|split)
theorem az.slice (t:TypeId)(x:Value)(lo hi mx:Option Value):az P (Instr.slice t x lo hi mx):=by
 unfold Instr.slice
 repeat' (first|exact az.sliceBounds _ _ _ _ _ _|exact az.asAddr _|(first|exact az.pure _|exact az.pure' _|exact az.halt _|exact bP.noW (bP.boundsPanic _ _ _ _)|exact bP.noW (bP.runtimePanic _)|exact az.prog|exact az.underlying _|exact az.sizeOf _|exact az.asIntOf _|exact az.sureAddr _|exact az.asBool _)|(refine az.bind ?_ fun _=>?_)|dsimp only|split)
theorem az.sliceAt (t:TypeId)(x:Value)(lo hi mx:Option Value):az P (Instr.sliceAt t x lo hi mx):=by
 unfold Instr.sliceAt
 repeat' (first|exact az.sliceBounds _ _ _ _ _ _|exact az.slice _ _ _ _ _|(first|exact az.pure _|exact az.pure' _|exact az.halt _|exact bP.noW (bP.boundsPanic _ _ _ _)|exact bP.noW (bP.runtimePanic _)|exact az.prog|exact az.underlying _|exact az.sizeOf _|exact az.asIntOf _|exact az.sureAddr _|exact az.asBool _)|(refine az.bind ?_ fun _=>?_)|dsimp only|split)
def PY (P:Program)(s:TypeId)(i:Nat):Bool:=
 match P.underlying s with
 |some (.struct fs)=>(match fs[i]? with
  |some f=>(match P.info? f.type with|some d=> !Nat.beq d.size 0|none=>false)
  |none=>false)
 |_=>false
theorem az.fieldAt {s:TypeId}{i:Nat}(h:PY P s i=true)(a:Value):az P (Instr.fieldAt s a i):=by
 unfold Instr.fieldAt;refine .bind' (.underlying _) fun d hd=>?_;have hu:P.underlying s=some d:=by
  have:=hd default;unfold Go.underlying at this;rw[Sem.run_bind] at this;change Result.andThen (.ok P default) _=_ at this;simp only[Result.andThen_ok] at this;cases hp:P.underlying s with
  |none=>rw[hp] at this;cases this
  |some d'=>
   rw[hp] at this;change Result.ok d' default=_ at this;cases this;rfl
 unfold PY at h;rw[hu] at h;cases d<;>dsimp only at h ⊢<;>try (first|exact az.pure _|exact az.pure' _|exact az.halt _|exact bP.noW (bP.boundsPanic _ _ _ _)|exact bP.noW (bP.runtimePanic _)|exact az.prog|exact az.underlying _|exact az.sizeOf _|exact az.asIntOf _|exact az.sureAddr _|exact az.asBool _)
 rename_i fs;cases hf:fs[i]? with
 |none=>dsimp only;(first|exact az.pure _|exact az.pure' _|exact az.halt _|exact bP.noW (bP.boundsPanic _ _ _ _)|exact bP.noW (bP.runtimePanic _)|exact az.prog|exact az.underlying _|exact az.sizeOf _|exact az.asIntOf _|exact az.sureAddr _|exact az.asBool _)
 |some f=>
  rw[hf] at h;dsimp only at h ⊢;refine .bind (.sureAddr _) fun a=>.bind ?_ fun _=>.pure _;unfold Go.fieldPlace;refine .bind' (.sizeOf _) fun n hn=>?_;have hz:n≠0:=by
   intro e;have:=hn default;unfold Go.sizeOf Go.typeInfo at this;cases hi:P.info? f.type with
   |none=>rw[hi] at h;cases h
   |some inf=>
    rw[hi] at h;rw[Sem.run_bind,Sem.run_bind] at this;change Result.andThen (Result.andThen (.ok P default) _) _=_ at this;simp only[Result.andThen_ok,hi] at this;change Result.ok inf.size default=_ at this;cases this;dsimp only at h;rw[e] at h;cases h
  rw[if_neg hz]
  (first|exact az.pure _|exact az.pure' _|exact az.halt _|exact bP.noW (bP.boundsPanic _ _ _ _)|exact bP.noW (bP.runtimePanic _)|exact az.prog|exact az.underlying _|exact az.sizeOf _|exact az.asIntOf _|exact az.sureAddr _|exact az.asBool _)
def AK (P:Program):Op→Bool
 |.move _=>true
 |.assign _=>true
 |.pick ..=>true
 |.fieldAddr s _ i=>PY P s i
 |.indexAddr ..=>true
 |.slice ..=>true
 |_=>false
theorem atq {o:Oper}(hp:AK P o.op=true)(ρ:Operand→Value):(∃v,∀w,(execOp ρ o).run P w=.ok (.value v) w)∨∀w,∃h w',(execOp ρ o).run P w=.halt h w':=by
 have key:∀s:Sem Value,az P s→(∃v,∀w,(do Pure.pure (Next.value (←s)):Sem Next).run P w=.ok (.value v) w)∨∀w,∃h w',(do Pure.pure (Next.value (←s)):Sem Next).run P w=.halt h w':=by
  intro s hs;rcases hs with⟨a,ha⟩|hd
  ·exact .inl ⟨a,fun w=>by rw[Sem.run_bind,ha w];rfl⟩
  ·refine .inr fun w=>?_;obtain⟨x,w',e⟩:=hd w;exact⟨x,w',by rw[Sem.run_bind,e];rfl⟩
 obtain⟨dst,op,type,pos,after,guard⟩:=o;cases op<;>first|(cases hp;done)|skip
 case move x=>exact .inl ⟨_,fun w=>rfl⟩
 case assign x=>exact .inl ⟨_,fun w=>rfl⟩
 case pick c a b=>
  have:=key (do Pure.pure (if←Go.asBool (ρ c) then ρ a else ρ b)) (.bind (.asBool _) fun _=>.pure _);simp only[execOp];rcases az.asBool (P:=P) (ρ c) with⟨t,ht⟩|hd
  ·exact .inl ⟨_,fun w=>by rw[Sem.run_bind,ht w];rfl⟩
  ·refine .inr fun w=>?_;obtain⟨x,w',e⟩:=hd w;exact⟨x,w',by rw[Sem.run_bind,e];rfl⟩
 case fieldAddr s x i=>exact key _ (.fieldAt hp _)
 case indexAddr t x i=>exact key _ (.indexAt _ _ _)
 case slice t x lo hi mx=>exact key _ (.sliceAt _ _ _ _ _)
theorem atr {rd:Option Nat}{ops:Array Oper}{i:Nat}{o:Oper}{a:Act}{w:World}{K:Act→World→Prop}(hi:ops[i]?=some o)(hp:AK P o.op=true)
 (h:wpOpIn (FR rd) 0 P ops (fun _ _ _=>False) i K a w):∃v,YieldsFenced P ops o v a∧K (a.put o.dst v) w:=by
 have aZ:∀c,o.op≠.defer c:=fun c e=>by rw[e] at hp;cases hp
 have uP:∀w,o.about P w a.eval=none:=fun w=>by
  unfold Oper.about;cases ho:o.op<;>first|rfl|(rw[ho] at hp;cases hp)
 unfold wpOpIn at h;rw[hi] at h;dsimp only at h;cases hw:Region.wanted o (yielded ops a.tmps) with
 |false=>
  rw[hw] at h;exact⟨undef,⟨.inr ⟨hw,rfl⟩,uP⟩,h.2⟩
 |true=>
  rw[hw,if_pos rfl] at h;have h2:=h.2;rw[Oper.semAt_eq _ _ _ aZ] at h2;rcases atq hp a.eval with⟨v,hv⟩|hd
  ·rw[hv w] at h2;exact⟨v,⟨.inl ⟨hw,hv⟩,uP⟩,h2⟩
  ·obtain⟨x,w',e⟩:=hd w;rw[e] at h2;cases x<;>exact h2.elim
section
variable {F:Fence} {n:Nat} {ops:Array Oper} {Q:Exit→Act→World→Prop} {md:Region.Mode}
theorem YF.wpOpIn {i:Nat}{o:Oper}{v:Value}{a:Act}(aZ:lQ o.op=true)(hi:ops[i]?=some o)(hy:YieldsFenced P ops o v a)
 {K:Act→World→Prop} {w:World} (h:K (a.put o.dst v) w):wpOpIn F n P ops Q i K a w:=by
 have gR:∀c,o.op≠.defer c:=fun c e=>by rw[e] at aZ;cases aZ
 unfold Go.wpOpIn;simp only[hi];have uP:∀f,o.about P w a.eval=some f→F.fn f:=fun f hf=>by rw[hy.2 w] at hf;cases hf
 rcases hy.1 with⟨hw,hv⟩|⟨hw,rfl⟩
 ·simp only[hw,if_true,Oper.wpIn,Oper.semAt_eq _ _ _ gR,hv w,Oper.uponIn];exact⟨uP,h⟩
 ·simp only[hw,Bool.false_eq_true,if_false];exact⟨uP,h⟩
theorem axr {j:Nat}{oi oj:Oper}{v:Value}(aZ:lQ oj.op=true)(hj:ops[j]?=some oj)(KF:oi.apart ops oj=true)
 (hsi:∀cs b,oi.op≠.select cs b) (hsj:∀cs b,oj.op≠.select cs b)
 (hQ:∀c a w,Q (.panic c) (a.put oi.dst v) w→Q (.panic c) a w) {K:Act→World→Prop} {a:Act} {w:World}
 (hy:YieldsFenced P ops oi v a) (h:wpOpIn F n P ops Q j K (a.put oi.dst v) w):
 wpOpIn F n P ops Q j (fun a' w'=>YieldsFenced P ops oi v a'∧K (a'.put oi.dst v) w') a w:=by
 have gR:∀c,oj.op≠.defer c:=fun c e=>by rw[e] at aZ;cases aZ
 obtain⟨h1,h2,h3⟩:=Oper.apart_spec KF;have keep:∀(a:Act),YieldsFenced P ops oi v a→∀u,YieldsFenced P ops oi v (a.put oj.dst u):=fun a hy u=>
  hy.of_same (execOp_put oi hsi a oj.dst u h3) (wanted_put oi a oj.dst u h3) (fun w=>about_put oi w a oj.dst u h3)
 have api:∀d,YieldsFenced P ops oi v {a with defers:=d::a.defers}:=fun d=>hy.of_same rfl rfl (fun _=>rfl);unfold Go.wpOpIn at*;simp only[hj] at*;rw[wanted_put oj a oi.dst v h1,about_put oj w a oi.dst v h1] at h;split
 ·rename_i hw;simp only[hw,if_true] at h;unfold Oper.wpIn at*;rw[about_put oj w a oi.dst v h1] at h;refine⟨h.1,?_⟩;have h:=h.2;rw[Oper.semAt_eq _ _ _ gR,execOp_put oj hsj a oi.dst v h1] at h;rw[Oper.semAt_eq _ _ _ gR];generalize (execOp a.eval oj).run P w=r at*;cases r with
  |ok x w'=>
   cases x<;>simp only[Oper.uponIn] at h ⊢
   case value u=>exact⟨keep a hy u,by rw[←Act.put_comm a v u h2];exact h⟩
   case skip=>exact⟨keep a hy _,by rw[←Act.put_comm a v undef h2];exact h⟩
   case defer d=>
        refine⟨keep _ (api d) _,?_⟩;rw[←Act.put_comm _ v undef h2,←Act.put_defers];exact h
   case enter f args=>
        refine⟨h.1,CallsIn.mono h.2 fun e iM he=>?_⟩;cases e with
        |returned u=>exact⟨keep a hy u,by rw[←Act.put_comm a v u h2];exact he⟩
        |panicked c=>exact hQ _ _ _ he
        |outgrown=>exact he
   case row row args=>exact⟨h.1,RowsIn.mono h.2 fun u iM he=>⟨keep a hy u,by rw[←Act.put_comm a v u h2];exact he⟩⟩
   case round l f tmps assign body=>
        refine⟨h.1,RoundIn.mono h.2 fun e iM he=>?_⟩;cases e with
        |returned u=>exact⟨keep a hy u,by rw[←Act.put_comm a v u h2];exact he⟩
        |panicked c=>exact hQ _ _ _ he
        |outgrown=>exact he
  |halt x w'=>
   cases x<;>simp only[Oper.uponIn] at h ⊢
   case panic u=>exact hQ _ _ _ h
 ·rename_i hw;simp only[hw] at h;exact⟨h.1,keep a hy _,by rw[←Act.put_comm a v undef h2];exact h.2⟩
theorem axq {i:Nat}{oi:Oper}{v:Value}(aZ:∀(j:Nat) (o:Oper),ops[j]?=some o→lQ o.op=true)(hi:ops[i]?=some oi)(vh:∀(j:Nat) (o:Oper) cs b,ops[j]?=some o→o.op≠.select cs b)
 (hQ:∀c a w,Q (.panic c) (a.put oi.dst v) w→Q (.panic c) a w):
 ∀(fuel:Nat) (listed:Array Bool) (a:Act) (w:World),
  (∀j oj,ops[j]?=some oj→j≠i→listed.getD j true=false→(∀e∈oj.after,Region.binds md e=true→e.on≠i)→oi.apart ops oj=true)→
  i∈Region.ready md ops listed→YieldsFenced P ops oi v a→
  wpAnyIn F n P md ops Q fuel (listed.setIfInBounds i true) (a.put oi.dst v) w→wpAnyIn F n P md ops Q (fuel+1) listed a w:=by
 intro fuel
 induction fuel with
 |zero=>
  intro listed a w _ hr hy H;refine⟨fun h=>(by rw[h] at hr;cases hr),fun j hj=>?_⟩;by_cases fP:j=i
  ·subst fP;exact YF.wpOpIn (aZ _ _ hi) hi hy H
  ·have:=ready_mono hj fP;rw[H.1] at this;cases this
 |succ fuel ih=>
  intro listed a w kO hr hy H;refine⟨fun h=>(by rw[h] at hr;cases hr),fun j hj=>?_⟩;by_cases fP:j=i
  ·subst fP;exact YF.wpOpIn (aZ _ _ hi) hi hy H
  ·have h1:=H.2 j (ready_mono hj fP);obtain⟨Vt,oj,nG,aQ⟩:=mem_ready.1 hj
   have Ln:∀e∈oj.after,Region.binds md e=true→e.on≠i:=fun e he hb heq=>by
        have h1:=aQ e he hb;have h0:=(mem_ready.1 hr).1;rw[heq] at h1;rcases Nat.lt_or_ge i listed.size with h'|h'
        ·simp[h'] at h0 h1;rw[h0] at h1;cases h1
        ·simp[Array.getElem?_eq_none h'] at h1
   have h2:=axr (aZ _ _ nG) nG (kO j oj nG fP Vt Ln) (fun cs b=>vh i oi cs b hi) (fun cs b=>vh j oj cs b nG) hQ hy h1;have am2:∀k ok,ops[k]?=some ok→k≠i→(listed.setIfInBounds j true).getD k true=false→
    (∀e∈ok.after,Region.binds md e=true→e.on≠i)→oi.apart ops ok=true:=fun k ok hk hki kU ec=>by
        refine kO k ok hk hki ?_ ec;by_cases Eh:j=k
        ·subst Eh;exact Vt
        ·rw[getD_set_ne true Eh] at kU;exact kU
   refine wpOpIn_mono (fun a' w' h3=>ih (listed.setIfInBounds j true) a' w' am2 (ready_mono hr (Ne.symm fP)) h3.1 ?_) h2;rw[Array.setIfInBounds_comm _ _ fP];exact h3.2
end
end
def oD (P:Program)(ops:Array Oper):List (Option (List Nat)):=(List.range ops.size).map fun i=>match ops[i]? with
 |some oi=>bif AK P oi.op then some ((List.range ops.size).filter fun j=> !(Nat.beq j i||(match ops[j]? with|some oj=>(oj.after.toList.any fun e=>Region.binds .any e&&Nat.beq e.on i)||oi.apart ops oj|none=>true))) else none
 |none=>none
def wQ (bad:List (Option (List Nat)))(E:Nat):List Nat→Option Nat
 |[]=>none
 |i::l=>match bad.getD i none with
  |some b=>bif b.all (ar E) then some i else wQ bad E l
  |none=>wQ bad E l
def Np (ops:Array Oper):Bool:=ops.toList.all fun o=>match o.op with|.select ..=>false|_=>true
theorem Iu {bad:List (Option (List Nat))}{E:Nat}:∀{l:List Nat} {i:Nat},wQ bad E l=some i→i∈l∧∃b,bad.getD i none=some b∧b.all (ar E)=true
 |[],_,h=>by cases h
 |i::l,j,h=>by
  unfold wQ at h;split at h
  ·rename_i b hb;cases hc:b.all (ar E) with
   |true=>
    rw[hc] at h;cases h;exact⟨List.mem_cons_self ..,b,hb,hc⟩
   |false=>
    rw[hc] at h;obtain⟨h1,h2⟩:=Iu h;exact⟨List.mem_cons_of_mem _ h1,h2⟩
  ·obtain⟨h1,h2⟩:=Iu h;exact⟨List.mem_cons_of_mem _ h1,h2⟩
theorem afv {P:Program}{ops:Array Oper}{i:Nat}{b:List Nat}(h:(oD P ops).getD i none=some b):∃oi,ops[i]?=some oi∧AK P oi.op=true∧
 ∀j oj,ops[j]?=some oj→j≠i→j∉b→(∀e∈oj.after,Region.binds .any e=true→e.on≠i)→oi.apart ops oj=true:=by
 unfold oD at h;rw[List.getD_eq_getElem?_getD,List.getElem?_map] at h;by_cases hi:i<ops.size
 ·rw[List.getElem?_range hi] at h;simp only[Option.map_some,Option.getD_some] at h;rw[Array.getElem?_eq_getElem hi] at h;dsimp only at h;cases hp:AK P ops[i].op<;>rw[hp] at h<;>simp only[cond_true,cond_false] at h
  ·cases h
  injection h with h
  refine⟨ops[i],Array.getElem?_eq_getElem hi,hp,fun j oj hj fP Eg ec=>?_⟩;have ah:j<ops.size:=(Array.getElem?_eq_some_iff.1 hj).1;rw[←h] at Eg;have h2:¬(!(Nat.beq j i||(match ops[j]? with|some oj=>(oj.after.toList.any fun e=>Region.binds .any e&&Nat.beq e.on i)||ops[i].apart ops oj|none=>true)))=true:=fun hc=>Eg (List.mem_filter.2 ⟨List.mem_range.2 ah,hc⟩);rw[hj,dI fP] at h2;simp only[Bool.false_or,Bool.not_eq_true',Bool.not_eq_false,Bool.or_eq_true] at h2;rcases h2 with h2|h2
  ·obtain⟨e,he,hb⟩:=List.any_eq_true.1 h2;rw[Bool.and_eq_true] at hb;exact absurd (cq hb.2) (ec e (by simpa using he) hb.1)
  ·exact h2
 ·rw[List.getElem?_eq_none (by simpa using hi)] at h;cases h
def Ai (E:Nat)(T:Snap):List (Nat×Snap)→Option (List (Nat×Snap))
 |[]=>some [(E,T)]
 |x::l=>bif Nat.beq x.1 E then(bif x.2.beq T then some (x::l) else none) else(Ai E T l).map (x::·)
def jM (ops:Array Oper)(E:Nat):List Nat:=
 (List.range ops.size).filter fun i=> !ar E i&&(match ops[i]? with|some o=>o.after.toList.all fun e=> !Region.binds .any e||ar E e.on|none=>false)
def NY (C:Ctx)(ops:Array Oper)(n:Nat)(ids:List Nat)(X:List (List PI))(nc:List (List Nat))(E:Nat)(T:Snap)(i:Nat):Option (Nat×Snap):=
 match ops[i]? with
 |some o=>(mu C (T.stO ids) ops o).bind fun r=>
  bif PI.beqs r.2 (X.getD i [])&&(nc.getD i []).all (ar E) then some (Nat.lor E (dc i),⟨rq (ji r.1) r.1 T.rs o.dst.toList,ids.map fun j=>fV r.1 (r.1.o j)⟩) else none
 |none=>none
def B1 (one:Nat→Option (Nat×Snap)):List Nat→List (Nat×Snap)→Option (List (Nat×Snap))
 |[],acc=>some acc
 |i::l,acc=>(one i).bind fun x=>x.2.hard fun T=>(Ai x.1 T acc).bind fun acc=>B1 one l acc
def mm (ops:Array Oper)(bad:List (Option (List Nat)))(E:Nat):List Nat:=
 match wQ bad E (jM ops E) with
 |some i=>[i]
 |none=>jM ops E
def Ap (ops:Array Oper)(bad:List (Option (List Nat)))(one:Nat→Snap→Nat→Option (Nat×Snap)):List (Nat×Snap)→List (Nat×Snap)→Option (List (Nat×Snap))
 |[],acc=>some acc
 |x::l,acc=>
  match mm ops bad x.1 with
  |[]=>none
  |rs=>(B1 (one x.1 x.2) rs acc).bind fun acc=>Ap ops bad one l acc
def BV (ops:Array Oper)(bad:List (Option (List Nat)))(one:Nat→Snap→Nat→Option (Nat×Snap)):Nat→List (Nat×Snap)→Option Snap
 |0,L=>
  match L with
  |[x]=>bif (List.range ops.size).all (ar x.1) then some x.2 else none
  |_=>none
 |k+1,L=>(Ap ops bad one L []).bind fun L=>BV ops bad one k L
theorem Wd {E:Nat}{T:Snap}:∀{l l':List (Nat×Snap)},Ai E T l=some l'→(E,T)∈l'∧∀x,x∈l→x∈l'
 |[],l',h=>by simp only[Ai,Option.some.injEq] at h;subst h;simp
 |x::l,l',h=>by
  simp only[Ai] at h;cases hb:Nat.beq x.1 E<;>simp only[hb,cond_true,cond_false] at h
  ·simp only[Option.map_eq_some_iff] at h;obtain⟨l2,h2,rfl⟩:=h;obtain⟨h3,h4⟩:=Wd h2;exact⟨List.mem_cons_of_mem _ h3,fun y hy=>(List.mem_cons.1 hy).elim (fun e=>e▸List.mem_cons_self ..) fun hm=>List.mem_cons_of_mem _ (h4 y hm)⟩
  ·cases hs:x.2.beq T<;>simp only[hs,cond_true,cond_false] at h
   ·cases h
   ·cases h;refine⟨?_,fun y hy=>hy⟩;have e1:=cq hb;have e2:=Snap.beq_eq _ _ hs;subst e1;subst e2;simp
theorem abQ {one:Nat→Option (Nat×Snap)}:∀{rs:List Nat} {acc xb:List (Nat×Snap)},B1 one rs acc=some xb→(∀x,x∈acc→x∈xb)∧∀i,i∈rs→∃x,one i=some x∧x∈xb
 |[],acc,xb,h=>by simp only[B1,Option.some.injEq] at h;subst h;simp
 |i::rs,acc,xb,h=>by
  simp only[B1,Snap.hard_eq,Option.bind_eq_some_iff] at h;obtain⟨x,hx,ads,h1,h2⟩:=h;obtain⟨h3,h4⟩:=Wd h1;obtain⟨h5,h6⟩:=abQ h2;refine⟨fun y hy=>h5 y (h4 y hy),fun j hj=>?_⟩;rcases List.mem_cons.1 hj with e|hm
  ·subst e;exact⟨x,hx,h5 _ h3⟩
  ·exact h6 j hm
theorem Wu {ops:Array Oper}{bad:List (Option (List Nat))}{one:Nat→Snap→Nat→Option (Nat×Snap)}:∀{L acc L':List (Nat×Snap)},Ap ops bad one L acc=some L'→
 (∀x,x∈acc→x∈L')∧∀x,x∈L→mm ops bad x.1≠[]∧∀i,i∈mm ops bad x.1→∃y,one x.1 x.2 i=some y∧y∈L'
 |[],acc,L',h=>by simp only[Ap,Option.some.injEq] at h;subst h;simp
 |x::L,acc,L',h=>by
  simp only[Ap] at h;split at h
  ·cases h
  ·rename_i aB;simp only[Option.bind_eq_some_iff] at h;obtain⟨ads,h1,h2⟩:=h;obtain⟨h3,h4⟩:=abQ h1;obtain⟨h5,h6⟩:=Wu h2;refine⟨fun y hy=>h5 y (h3 y hy),fun y hy=>?_⟩;rcases List.mem_cons.1 hy with e|hm
   ·subst e;refine⟨fun e=>aB e,fun i hi=>?_⟩;obtain⟨z,hz,hm⟩:=h4 i hi;exact⟨z,hz,h5 z hm⟩
   ·exact h6 y hm
def dE (X:List (List PI))(l:List Nat)(E:Nat):List PI:=l.flatMap fun i=>bif ar E i then[] else X.getD i []
theorem PH {X:List (List PI)}{E E':Nat}:∀(l:List Nat),(∀i,i∈l→ar E i=ar E' i)→dE X l E=dE X l E'
 |[],_=>rfl
 |i::l,h=>by
  have ih:=PH (X:=X) l fun j hj=>h j (List.mem_cons_of_mem _ hj);unfold dE at ih ⊢;simp only[List.flatMap_cons];rw[ih,h i (List.mem_cons_self ..)]
theorem Foot.comm_each {a b:List PI}(h:(fM a).comm (fM b)=true):∀p q,p∈a→q∈b→Comm p q:=by
 simp only[Foot.comm,Bool.and_eq_true] at h;obtain⟨h1,h2,h3,h4,h5,h6⟩:=h;intro p q hp hq;obtain⟨p1,p2,p3,p4⟩:=UC hp;obtain⟨q1,q2,q3,q4⟩:=UC hq;exact⟨fun t x y=>Mg h1 (p1 t x) (q1 t y),fun t x y=>Mg h2 (p1 t x) (q3 t y),fun t x y=>Mg h3 (q1 t x) (p3 t y),fun t x y=>Ja h4 (p2 t x) (q2 t y),fun t x y=>Ja h5 (p2 t x) (q4 t y),fun t x y=>Ja h6 (q2 t x) (p4 t y)⟩
def mS (X:List (List PI))(N:Nat):List (List Nat):=
 (List.range N).map fun i=>(List.range i).filter fun j=> !(fM (X.getD j [])).comm (fM (X.getD i []))
theorem gp (E i j:Nat):ar (Nat.lor E (dc i)) j=(ar E j||Nat.beq i j):=by
 rw[dU]
 congr 1
 rw[oG];show(1<<<i).testBit j=_;rw[Nat.testBit_shiftLeft];by_cases h:i=j
 ·subst h;simp
 ·have h1:Nat.beq i j=false:=dI h;rw[h1];by_cases h2:i≤j
  ·have:j-i≠0:=by omega
   cases hk:j-i with
   |zero=>omega
   |succ k=>
    have:(1:Nat).testBit (k+1)=false:=by simp[Nat.testBit_succ]
    simp[this]
  ·simp[h2]
theorem abm {X:List (List PI)}{N E i:Nat}(hi:i<N)(hb:ar E i=false)(cQ:((mS X N).getD i []).all (ar E)=true)(Φ:aL)(ρ:Env):
 PI.runs Φ (dE X (List.range N) E) ρ=(PI.runs Φ (X.getD i []) ρ).bind (PI.runs Φ (dE X (List.range N) (Nat.lor E (dc i)))):=by
 obtain⟨l1,l2,hl⟩:=List.append_of_mem (List.mem_range.2 hi);have hp:=List.pairwise_lt_range (n:=N);rw[hl,List.pairwise_append] at hp;obtain⟨_,fm,hp3⟩:=hp;rw[List.pairwise_cons] at fm;have WJ:∀j,j∈l1→j<i:=fun j hj=>hp3 j hj i (List.mem_cons_self ..);have lt2:∀j,j∈l2→i<j:=fun j hj=>fm.1 j hj;have e0:∀E,dE X (l1++i::l2) E=dE X l1 E++((bif ar E i then[] else X.getD i [])++dE X l2 E):=fun E=>by simp[dE]
 have e1:dE X l1 (Nat.lor E (dc i))=dE X l1 E:=PH l1 fun j hj=>by
  rw[gp,dI (by have:=WJ j hj;omega),Bool.or_false]
 have e2:dE X l2 (Nat.lor E (dc i))=dE X l2 E:=PH l2 fun j hj=>by
  rw[gp,dI (by have:=lt2 j hj;omega),Bool.or_false]
 have e3:ar (Nat.lor E (dc i)) i=true:=by rw[gp,Nat.beq_refl,Bool.or_true]
 rw[hl,e0,e0,e1,e2,e3,hb];simp only[cond_true,cond_false,List.nil_append]
 have amJ:PI.runs Φ (dE X l1 E++X.getD i [])=PI.runs Φ (X.getD i []++dE X l1 E):=funext fun ρ=>PI.comms _ _ (fun p q hp hq=>by
  unfold dE at hp;obtain⟨j,hj,hp⟩:=List.mem_flatMap.1 hp;cases mF:ar E j<;>simp only[mF,cond_true,cond_false] at hp
  case true=>cases hp
  have hc:(fM (X.getD j [])).comm (fM (X.getD i []))=true:=by
   cases gg:(fM (X.getD j [])).comm (fM (X.getD i [])) with
   |true=>rfl
   |false=>
    have qu:(mS X N).getD i []=(List.range i).filter fun j=> !(fM (X.getD j [])).comm (fM (X.getD i [])):=by
     unfold mS;rw[List.getD_eq_getElem?_getD,List.getElem?_map,List.getElem?_range hi];rfl
    rw[qu] at cQ;have:=List.all_eq_true.1 cQ j (List.mem_filter.2 ⟨List.mem_range.2 (WJ j hj),by rw[gg];rfl⟩);rw[mF] at this;cases this
  exact Foot.comm_each hc p q hp hq) ρ
 rw[←List.append_assoc,l5,amJ];have:=l5 (Φ:=Φ) (a:=X.getD i []) (b:=dE X l1 E) (ρ:=ρ);rw[this,Option.bind_assoc]
 congr 1
 funext ρ1;rw[l5]
def dS (C:Ctx)(ops:Array Oper):List Nat→St→Option (List (List PI))
 |[],_=>some []
 |i::l,S=>
  match ops[i]? with
  |some o=>(mu C S ops o).bind fun r=>(dS C ops l r.1).map fun q=>r.2::q
  |none=>none
def UJ (ops:Array Oper):Bool:=(List.range ops.size).all fun i=>match ops[i]? with
 |some o=>(match o.guard with|some (j,_)=>Nat.blt j i|none=>true)
 |none=>true
def uK (ops:Array Oper):Bool:=ops.toList.all fun o=>match o.guard with
 |some (j,_)=>o.after.toList.any fun e=>Region.binds .any e&&Nat.beq e.on j
 |none=>true
def bq:Operand→List Nat
 |.tmp t=>[t]
 |_=>[]
def wS:Option Operand→List Nat
 |some x=>bq x
 |none=>[]
def jG:Op→List Nat
 |.move x=>bq x
 |.assign x=>bq x
 |.unOp _ _ x=>bq x
 |.convert _ _ x=>bq x
 |.load _ x=>bq x
 |.fieldAddr _ x _=>bq x
 |.field _ x _=>bq x
 |.extract x _=>bq x
 |.nilCheck x=>bq x
 |.pick c x y=>bq c++bq x++bq y
 |.binOp _ _ x y _=>bq x++bq y
 |.indexAddr _ x i=>bq x++bq i
 |.index _ x i=>bq x++bq i
 |.lookup _ m k _=>bq m++bq k
 |.slice _ x lo hi _=>bq x++wS lo++wS hi
 |.build _ ps=>ps.toList.flatMap fun p=>bq p.2
 |.call c=>(match c.callee with|.value x=>bq x|_=>[])++c.args.toList.flatMap bq
 |.store _ x v=>bq x++bq v
 |.mapUpdate _ m k v=>bq m++bq k++bq v
 |_=>[]
def DM (ops:Array Oper)(o:Oper):List Nat:=
 match o.guard with
 |some (j,_)=>(match(ops[j]?).bind (·.dst) with|some t=>[t]|none=>[])
 |none=>[]
def St.withR (S:St)(f:Nat→Sh):St:=⟨f,S.o,S.ver⟩
section
variable {C:Ctx} {S:St} {f:Nat→Sh} {gs:List (Nat×Bool)} {dst:Nat}
theorem wN {t:Nat}(h:f t=S.r t):jt (S.withR f) gs t=jt S gs t:=by
 have e:(S.withR f).r t=S.r t:=h;unfold jt;rw[e]
theorem rp {x:Operand}(h:∀t,t∈bq x→f t=S.r t):fq (S.withR f) gs x=fq S gs x:=by
 cases x<;>first|rfl|exact wN (h _ (List.mem_singleton.2 rfl))
theorem dm {x:Operand}(h:∀t,t∈bq x→f t=S.r t):use C (S.withR f) gs x=use C S gs x:=by
 cases x<;>first|rfl|(unfold use;simp only;rw[wN (h _ (List.mem_singleton.2 rfl))];rfl)
theorem acX {x:Operand}(h:∀t,t∈bq x→f t=S.r t):view C (S.withR f) gs x=view C S gs x:=by
 unfold view;rw[dm h];cases x<;>first|rfl|(simp only;rw[wN (h _ (List.mem_singleton.2 rfl))];rfl)
theorem R3:∀{xs:List Operand},(∀t,t∈xs.flatMap bq→f t=S.r t)→jQ C (S.withR f) gs xs=jQ C S gs xs
 |[],_=>rfl
 |x::xs,h=>by
  simp only[jQ]
  rw[dm fun t ht=>h t (List.mem_flatMap.2 ⟨x,List.mem_cons_self ..,ht⟩),R3 fun t ht=>by
   obtain⟨y,hy,pv⟩:=List.mem_flatMap.1 ht;exact h t (List.mem_flatMap.2 ⟨y,List.mem_cons_of_mem _ hy,pv⟩)]
theorem axi {x:Option Operand}(h:∀t,t∈wS x→f t=S.r t):B8 C (S.withR f) gs x=B8 C S gs x:=by
 cases x with
 |none=>rfl
 |some x=>exact dm h
theorem axg {e:PE}{x:Option Operand}(h:∀t,t∈wS x→f t=S.r t):B7 C (S.withR f) gs e x=B7 C S gs e x:=by
 cases x with
 |none=>rfl
 |some x=>exact dm h
theorem nS:∀{xs:List Operand},(∀t,t∈xs.flatMap bq→f t=S.r t)→bS (S.withR f) gs xs=bS S gs xs
 |[],_=>rfl
 |x::xs,h=>by
  simp only[bS]
  rw[rp fun t ht=>h t (List.mem_flatMap.2 ⟨x,List.mem_cons_self ..,ht⟩),nS fun t ht=>by
   obtain⟨y,hy,pv⟩:=List.mem_flatMap.1 ht;exact h t (List.mem_flatMap.2 ⟨y,List.mem_cons_of_mem _ hy,pv⟩)]
  rfl
theorem Ti:∀(l:List Sh) (j i:Nat),oH (S.withR f) j l i=oH S j l i
 |[],_,_=>rfl
 |s::l,j,i=>by simp only[oH];rw[Ti l j (i+1)];rfl
theorem gG {P:Nat→Prop}{a b:List Nat}(h:∀t,t∈a++b→P t):(∀t,t∈a→P t)∧∀t,t∈b→P t:=
 ⟨fun t ht=>h t (List.mem_append_left _ ht),fun t ht=>h t (List.mem_append_right _ ht)⟩
theorem Z2 {x:Operand}(h:∀t,t∈bq x→f t=S.r t):mU C (S.withR f) gs dst x=mU C S gs dst x:=by
 unfold mU;rw[dm h];cases x<;>first|rfl|(simp only;rw[wN (h _ (List.mem_singleton.2 rfl))])
theorem asU {c x y:Operand}(h:∀t,t∈bq c++bq x++bq y→f t=S.r t):vT C (S.withR f) gs dst c x y=vT C S gs dst c x y:=by
 obtain⟨h1,h3⟩:=gG h;obtain⟨h1,h2⟩:=gG h1;unfold vT;cases c<;>first|rfl|skip
 simp only;rw[wN (h1 _ (List.mem_singleton.2 rfl)),dm h2,dm h3]
theorem asv {op:BinOp}{T:TypeId}{x y:Operand}(h:∀t,t∈bq x++bq y→f t=S.r t):vI C (S.withR f) gs dst op T x y=vI C S gs dst op T x y:=by
 obtain⟨h1,h2⟩:=gG h;unfold vI;rw[dm h1,dm h2]
theorem asZ {op:UnOp}{x:Operand}(h:∀t,t∈bq x→f t=S.r t):vV C (S.withR f) gs dst op x=vV C S gs dst op x:=by unfold vV;rw[dm h]
theorem asz {s d:TypeId}{x:Operand}(h:∀t,t∈bq x→f t=S.r t):vK C (S.withR f) gs dst s d x=vK C S gs dst s d x:=by unfold vK;rw[dm h]
theorem asM {T:TypeId}{x:Operand}(h:∀t,t∈bq x→f t=S.r t):vQ C (S.withR f) gs dst T x=vQ C S gs dst T x:=by unfold vQ;rw[acX h]
theorem Z0 {b:Bool}{x y:Operand}(h:∀t,t∈bq x++bq y→f t=S.r t):th C (S.withR f) gs dst b x y=th C S gs dst b x y:=by
 obtain⟨h1,h2⟩:=gG h;unfold th;rw[dm h1,dm h2]
theorem asO {T:TypeId}{x:Operand}(h:∀t,t∈bq x→f t=S.r t):qW C (S.withR f) gs dst T x=qW C S gs dst T x:=by
 unfold qW;rw[rp h,dm h];simp only[Ti];rfl
theorem asD {T:TypeId}{x:Operand}{i:Nat}(h:∀t,t∈bq x→f t=S.r t):vN C (S.withR f) gs dst T x i=vN C S gs dst T x i:=by
 unfold vN;rw[rp h,dm h];rfl
theorem asF {T:TypeId}{x:Operand}{i:Nat}(h:∀t,t∈bq x→f t=S.r t):vM C (S.withR f) gs dst T x i=vM C S gs dst T x i:=by unfold vM;rw[dm h]
theorem asI {T:TypeId}{x i:Operand}(h:∀t,t∈bq x++bq i→f t=S.r t):vP C (S.withR f) gs dst T x i=vP C S gs dst T x i:=by
 obtain⟨h1,h2⟩:=gG h;unfold vP;rw[dm h1,dm h2,rp h1];rfl
theorem asK {T:TypeId}{x i:Operand}(h:∀t,t∈bq x++bq i→f t=S.r t):vO C (S.withR f) gs dst T x i=vO C S gs dst T x i:=by
 obtain⟨h1,h2⟩:=gG h;unfold vO;rw[dm h1,dm h2]
theorem asB {x:Operand}{i:Nat}(h:∀t,t∈bq x→f t=S.r t):vL C (S.withR f) gs dst x i=vL C S gs dst x i:=by unfold vL;rw[dm h]
theorem asQ {T:TypeId}{m k:Operand}{ok:Bool}(h:∀t,t∈bq m++bq k→f t=S.r t):vR C (S.withR f) gs dst T m k ok=vR C S gs dst T m k ok:=by
 obtain⟨h1,h2⟩:=gG h;unfold vR;rw[acX h1,dm h2]
theorem asX {T:TypeId}{x:Operand}{lo hi mx:Option Operand}(h:∀t,t∈bq x++wS lo++wS hi→f t=S.r t):vU C (S.withR f) gs dst T x lo hi mx=vU C S gs dst T x lo hi mx:=by
 obtain⟨h1,h3⟩:=gG h;obtain⟨h1,h2⟩:=gG h1;unfold vU;rw[dm h1];simp only[axi h2,axg h3]
theorem S9 {zs:List Value}{parts:List (Nat×Operand)}(h:∀t,t∈(parts.flatMap fun p=>bq p.2)→f t=S.r t):∀(fs:List Field) (i off:Nat),iP C (S.withR f) gs zs parts fs i off=iP C S gs zs parts fs i off
 |[],_,_=>rfl
 |g::fs,i,off=>by
  simp only[iP,S9 h fs];cases hp:parts.find? (fun p=>Nat.beq p.1 i) with
  |none=>rfl
  |some p=>
   have hu:use C (S.withR f) gs p.2=use C S gs p.2:=dm fun t ht=>h t (List.mem_flatMap.2 ⟨p,List.mem_of_find?_eq_some hp,ht⟩);simp only[hu]
theorem asx {T:TypeId}{ps:List (Nat×Operand)}(h:∀t,t∈(ps.flatMap fun p=>bq p.2)→f t=S.r t):vJ C (S.withR f) gs dst T ps=vJ C S gs dst T ps:=by
 unfold vJ;simp only[S9 h];split
 ·rfl
 ·split
  ·split
   ·rename_i x y;rw[dm (x:=x) fun t ht=>h t (by simp[ht]),dm (x:=y) fun t ht=>h t (by simp[ht])]
   ·rfl
  ·rfl
 ·rfl
theorem asS {x:Operand}(h:∀t,t∈bq x→f t=S.r t):vS C (S.withR f) gs dst x=vS C S gs dst x:=by
 unfold vS;rw[dm h];cases x<;>first|rfl|(simp only;rw[wN (h _ (List.mem_singleton.2 rfl))];rfl)
def kK:Op→Bool
 |.move _|.pick ..|.binOp ..|.unOp ..|.convert ..|.load ..|.fieldAddr ..|.field ..|.indexAddr ..|.index ..|.extract ..|.lookup ..|.slice ..|.build ..|.nilCheck _|.makeInterface ..|.call _=>true
 |_=>false
theorem Z4 {op:Op}(hq:kK op=true)(h:∀t,t∈jG op→f t=S.r t):lR C (S.withR f) gs dst op=lR C S gs dst op:=by
 cases op<;>simp only[kK] at hq<;>simp only[jG] at h<;>simp only[lR]
 case move=>exact Z2 h
 case pick=>exact asU h
 case binOp=>exact asv h
 case unOp=>exact asZ h
 case convert=>exact asz h
 case load=>exact asO h
 case fieldAddr=>exact asD h
 case field=>exact asF h
 case indexAddr=>exact asI h
 case index=>exact asK h
 case extract=>exact asB h
 case lookup=>exact asQ h
 case slice=>exact asX h
 case build=>exact asx h
 case nilCheck=>exact asS h
 case call c=>
  obtain⟨_,h2⟩:=gG h;split
  ·rename_i x T _ ha _;exact asM fun t ht=>h2 t (by rw[ha];simp[ht])
  ·rename_i x y _ ha;exact Z0 fun t ht=>h2 t (by rw[ha];simpa using ht)
  ·rename_i x y _ ha;exact Z0 fun t ht=>h2 t (by rw[ha];simpa using ht)
  ·rfl
 all_goals (cases hq;done)
theorem atk {op:Op}(h:∀t,t∈jG op→f t=S.r t)(hq:kK op=true):qY (S.withR f) gs op=qY S gs op:=by
 cases op<;>simp only[kK] at hq<;>simp only[jG] at h<;>simp only[qY]
 case build T ps=>exact nS fun t ht=>h t (by
  obtain⟨x,hx,L5⟩:=List.mem_flatMap.1 ht;obtain⟨p,hp,rfl⟩:=List.mem_map.1 hx;exact List.mem_flatMap.2 ⟨p,hp,L5⟩)
 case pick c x y=>
  obtain⟨h1,h3⟩:=gG h;obtain⟨h1,h2⟩:=gG h1;refine nS fun t ht=>?_;simp only[List.flatMap_cons,List.flatMap_nil,List.append_nil,List.mem_append] at ht;exact ht.elim (h2 t) (h3 t)
 case slice T x lo hi mx=>
  obtain⟨h1,h3⟩:=gG h;obtain⟨h1,h2⟩:=gG h1;exact nS fun t ht=>h1 t (by simpa using ht)
 all_goals first|rfl|(cases hq;done)
theorem atl {op:Op}(h:∀t,t∈jG op→f t=S.r t)(hq:kK op=true):pre C (S.withR f) gs op=pre C S gs op:=by
 have sC:=hq;cases op<;>simp only[kK] at hq<;>simp only[pre,atk h sC]
 case load T x=>simp only[jG] at h;rw[rp h];rfl
 all_goals first|(cases hq;done)|skip
theorem alW {ops:Array Oper}{o:Oper}(h:∀t,t∈DM ops o→f t=S.r t):mE (S.withR f) ops o=mE S ops o:=by
 unfold mE;cases hg:o.guard with
 |none=>rfl
 |some jw=>
  obtain⟨j,want⟩:=jw;simp only;cases ht:(ops[j]?).bind (·.dst) with
  |none=>rfl
  |some t=>
   simp only;have:(S.withR f).r t=S.r t:=h t (by unfold DM;rw[hg];simp[ht]);rw[this]
end
def y9 (C:Ctx)(S:St)(gs:List (Nat×Bool))(dst:Nat)(op:Op):Option (Sh×List PI):=
 match op with
 |.assign x=>
  match gs with
  |[]=>bif C.fr.any (Nat.beq dst)&&(bS S [] [x]).isEmpty then(match mU C S [] dst x with|some r=>bif kW r.1 then some r else none|none=>none) else none
  |_=>none
 |.call c=>
  match lR C S gs dst (.call c) with
  |some r=>bif nQ r.1&&gw gs (some dst) r.2 then some (gu gs r.1,r.2) else none
  |none=>
   bif (bS S gs c.args.toList).isEmpty then
    match c.callee with
    |.value (.func f)=>(match mz C S gs dst f c.args.toList with|some r=>bif gw gs (some dst) r.2.2 then some (gu gs r.2.1,r.2.2) else none|none=>none)
    |.value x=>(match ly C S gs dst x c.args.toList with|some r=>bif gw gs (some dst) r.2.2 then some (gu gs r.2.1,r.2.2) else none|none=>none)
    |_=>none
   else none
 |op=>bif kK op&&(pre C S gs op).isEmpty then(match lR C S gs dst op with|some r=>bif nQ r.1&&gw gs (some dst) r.2 then some (gu gs r.1,r.2) else none|none=>none) else none
def za (C:Ctx)(S:St)(gs:List (Nat×Bool))(op:Op):Option (List PI):=
 match op,gs with
 |.store T x v,[]=>
  match fq S [] x with
  |.eptr ..=>bif (bS S [] [v]).isEmpty then(qg C S T x v).map (·.2) else none
  |_=>none
 |.mapUpdate T m k v,[]=>bif (bS S [] [k,v]).isEmpty then(oJ C S T m k v).map (·.2) else none
 |.panic _,[]=>some [.chk (.nt (.con (.bool true)))]
 |_,_=>none
def qm (C:Ctx)(S:St)(ops:Array Oper)(o:Oper):Option (Sh×List PI):=
 match C.yl with
 |some _=>none
 |none=>(mE S ops o).bind fun gs=>
  match o.dst with
  |some dst=>y9 C S gs dst o.op
  |none=>(za C S gs o.op).map fun l=>(.none,l)
def ln (S:St)(o:Oper)(s:Sh):St:=match o.dst with|some d=>S.setR d s|none=>S
section
variable {C:Ctx} {S:St} {f:Nat→Sh} {gs:List (Nat×Bool)} {dst:Nat}
theorem aiB {g:Nat}{xs:List Operand}(h:∀t,t∈xs.flatMap bq→f t=S.r t)(he:(bS S gs xs).isEmpty=true):
 (match mz C (S.withR f) gs dst g xs with|some r=>bif gw gs (some dst) r.2.2 then some (gu gs r.2.1,r.2.2) else none|none=>none)=(match mz C S gs dst g xs with|some r=>bif gw gs (some dst) r.2.2 then some (gu gs r.2.1,r.2.2) else none|none=>none):=by
 have ho:=nS (gs:=gs) h;have jB:=List.isEmpty_iff.1 he;unfold mz;cases C.sig g with
 |none=>rfl
 |some s=>
  simp only[Option.bind_some];cases s.mode<;>first|rfl|skip
  simp only[ho,jB,St.fzs,List.foldl_nil,R3 h];cases jQ C S gs xs with
  |none=>rfl
  |some u=>
   simp only[Option.bind_some];cases Ty.subs u.1 s.args<;>rfl
theorem aiw {x:Operand}{xs:List Operand}(hx:∀t,t∈bq x→f t=S.r t)(h:∀t,t∈xs.flatMap bq→f t=S.r t)(he:(bS S gs xs).isEmpty=true):
 (match ly C (S.withR f) gs dst x xs with|some r=>bif gw gs (some dst) r.2.2 then some (gu gs r.2.1,r.2.2) else none|none=>none)=(match ly C S gs dst x xs with|some r=>bif gw gs (some dst) r.2.2 then some (gu gs r.2.1,r.2.2) else none|none=>none):=by
 have ho:=nS (gs:=gs) h;have jB:=List.isEmpty_iff.1 he;unfold ly;rw[dm hx];cases use C S gs x with
 |none=>rfl
 |some y=>
  obtain⟨ty,e⟩:=y;cases ty with
  |fn aa r=>
   simp only;cases kh aa r with
   |some _=>rfl
   |none=>
    simp only[ho,jB,St.fzs,List.foldl_nil,R3 h];cases jQ C S gs xs with
    |none=>rfl
    |some u=>
     simp only[Option.bind_some];cases Ty.subs u.1 aa<;>rfl
  |_=>rfl
theorem ajt {op:Op}(h:∀t,t∈jG op→f t=S.r t):y9 C (S.withR f) gs dst op=y9 C S gs dst op:=by
 have other:∀op,(∀t,t∈jG op→f t=S.r t)→(bif kK op&&(pre C (S.withR f) gs op).isEmpty then(match lR C (S.withR f) gs dst op with|some r=>bif nQ r.1&&gw gs (some dst) r.2 then some (gu gs r.1,r.2) else none|none=>none) else none)=
  (bif kK op&&(pre C S gs op).isEmpty then(match lR C S gs dst op with|some r=>bif nQ r.1&&gw gs (some dst) r.2 then some (gu gs r.1,r.2) else none|none=>none) else none):=by
  intro op h;cases hq:kK op with
  |false=>rfl
  |true=>rw[atl h hq,Z4 hq h]
 unfold y9;split
 ·rename_i x;simp only[jG] at h;rw[Z2 h,nS (xs:=[x]) fun t ht=>h t (by simpa using ht)]
 ·rename_i c;have h':=h;simp only[jG] at h';obtain⟨h1,h2⟩:=gG h';rw[Z4 (op:=.call c) rfl h,nS h2];split
  ·rfl
  ·cases he:(bS S gs c.args.toList).isEmpty with
   |false=>rfl
   |true=>
    simp only[cond_true];split
    ·exact aiB h2 he
    ·rename_i x _ hc;exact aiw (fun t ht=>h1 t (by rw[hc];exact ht)) h2 he
    ·rfl
 ·exact other _ h
theorem aju {op:Op}(h:∀t,t∈jG op→f t=S.r t):za C (S.withR f) gs op=za C S gs op:=by
 unfold za;split
 ·rename_i T x v;simp only[jG] at h;obtain⟨h1,h2⟩:=gG h;rw[rp h1,nS (xs:=[v]) fun t ht=>h2 t (by simpa using ht)];split
  ·rename_i j ver size off jd;cases(bS S [] [v]).isEmpty with
   |false=>rfl
   |true=>
    simp only[cond_true];unfold qg;rw[rp h1,dm h2,jd];simp only;have eo:(S.withR f).o=S.o:=rfl;have ev:(S.withR f).ver=S.ver:=rfl;rw[eo,ev];cases C.P.info? T with
    |none=>rfl
    |some inf=>
     simp only;cases Nat.beq ver (S.ver j) with
     |false=>rfl
     |true=>
      simp only[cond_true];cases S.o j with
      |row T' e0=>
       cases use C S [] v with
       |none=>cases e0<;>rfl
       |some y=>
        obtain⟨t,e⟩:=y;cases e0<;>simp only<;>(generalize (_&&_:Bool)=b;cases b<;>rfl)
      |_=>rfl
  ·rfl
 ·rename_i T m k v;simp only[jG] at h;obtain⟨h1,h3⟩:=gG h;obtain⟨h1,h2⟩:=gG h1
  rw[nS (xs:=[k,v]) fun t ht=>by
   simp only[List.flatMap_cons,List.flatMap_nil,List.append_nil,List.mem_append] at ht;exact ht.elim (h2 t) (h3 t)]
  cases(bS S [] [k,v]).isEmpty with
  |false=>rfl
  |true=>
   simp only[cond_true];unfold oJ;rw[rp h1,dm h2,dm h3];have eo:(S.withR f).o=S.o:=rfl;have ev:(S.withR f).ver=S.ver:=rfl;rw[eo,ev];cases C.P.underlying T with
   |none=>rfl
   |some desc=>
    cases desc with
    |map K E=>
     cases fq S [] m with
     |obj j ver=>
      simp only;cases Nat.beq ver (S.ver j) with
      |false=>rfl
      |true=>
       simp only[cond_true];cases S.o j with
       |mp kt et=>
        cases use C S [] k with
        |none=>rfl
        |some y=>
         cases use C S [] v with
         |none=>rfl
         |some z=>
          obtain⟨tk,ek⟩:=y;obtain⟨tv,ev⟩:=z;simp only;generalize (_&&_:Bool)=b;cases b<;>rfl
       |_=>rfl
     |_=>rfl
    |_=>rfl
 ·rfl
 ·rfl
theorem ajw {ops:Array Oper}{o:Oper}(h:∀t,t∈jG o.op++DM ops o→f t=S.r t):qm C (S.withR f) ops o=qm C S ops o:=by
 obtain⟨h1,h2⟩:=gG h;unfold qm;rw[alW h2];split
 ·rfl
 ·cases mE S ops o with
  |none=>rfl
  |some gs=>
   simp only[Option.bind_some];split
   ·exact ajt h1
   ·rw[aju h1]
theorem aui {S:St}{t:Nat}{s:Sh}(h:S.r t=s)(hs:kW s=true):tK S t t=some (S,[]):=by
 unfold tK;rw[h];cases s<;>first|rfl|cases hs
theorem ajv {ops:Array Oper}{o:Oper}{q:Sh×List PI}(h:qm C S ops o=some q):mu C S ops o=some (ln S o q.1,q.2):=by
 unfold qm at h;split at h
 case h_1=>cases h
 rename_i ix;simp only[Option.bind_eq_some_iff] at h;obtain⟨gs,df,h⟩:=h;have hY:ux C S ops o=none:=by
  unfold ux;rw[ix];split<;>first|rfl|(rename_i hx;cases hx;done)|(rename_i hx _;cases hx;done)
 have fin:∀{S':St},pre C S gs o.op++mX C S gs o=[]→core C S gs o=some (S',q.2)→gN C (post C S' o) S'=some (S',[])→gw gs o.dst q.2=true→mu C S ops o=some (S',q.2):=by
  intro S' h1 h2 h3 h4;unfold mu uw yK;rw[hY,df];simp only[Option.bind_some,h1,gN,h2,h3,h4,cond_true,List.nil_append,List.append_nil]
 cases hd:o.dst with
 |some dst=>
  simp only[hd] at h;have cF:ln S o q.1=S.setR dst q.1:=by unfold ln;rw[hd]
  rw[cF];unfold y9 at h;split at h
  ·rename_i x bE;split at h
   case h_2=>cases h
   cases hb:(C.fr.any (Nat.beq dst)&&(bS S [] [x]).isEmpty)<;>simp only[hb,cond_true,cond_false] at h
   ·cases h
   simp only[Bool.and_eq_true] at hb;split at h
   case h_2=>cases h
   rename_i r hr;cases U9:kW r.1<;>simp only[U9,cond_true,cond_false] at h
   ·cases h
   cases h;have he:=List.isEmpty_iff.1 hb.2;refine fin ?_ ?_ ?_ rfl
   ·rw[bE];unfold mX;rw[bE,hd];simp only[hb.1,he,cond_true,pre,qY,List.map_nil,List.append_nil]
   ·unfold core;rw[hd];simp only[bE,lR,hb.1,cond_true,hr]
   ·unfold post;rw[bE,hd];simp only[gN,Gh.run];rw[aui (s:=q.1) (by simp[St.setR,aP]) U9];rfl
  ·rename_i c bE;have LB:pre C S gs o.op++mX C S gs o=[]:=by
        rw[bE];unfold mX;rw[bE];simp[pre,qY]
   have iu:∀S':St,gN C (post C S' o) S'=some (S',[]):=fun S'=>by
        unfold post;rw[bE];rfl
   split at h
   ·rename_i r hr;cases hb:(nQ r.1&&gw gs (some dst) r.2)<;>simp only[hb,cond_true,cond_false] at h
    ·cases h
    cases h;simp only[Bool.and_eq_true] at hb;refine fin LB ?_ (iu _) (by rw[hd];exact hb.2);unfold core;rw[hd];simp only[bE,hr,hb.1,cond_true]
   ·rename_i hr;cases he:(bS S gs c.args.toList).isEmpty<;>simp only[he,cond_true,cond_false] at h
    ·cases h
    have jB:=List.isEmpty_iff.1 he;have sfz:∀b:Bool,(bif b then S else S.fzs (bS S gs c.args.toList))=S:=fun b=>by rw[jB];cases b<;>rfl
    split at h
    ·rename_i f hc;split at h
     case h_2=>cases h
     rename_i r eE;cases hb:gw gs (some dst) r.2.2<;>simp only[hb,cond_true,cond_false] at h
     ·cases h
     cases h;refine fin LB ?_ (iu _) (by rw[hd];exact hb);have hS:r.1=S:=by
      simp only[mz,Option.bind_eq_some_iff] at eE;obtain⟨s,hs,eE⟩:=eE;split at eE
      case h_2=>cases eE
      simp only[Option.bind_eq_some_iff] at eE;obtain⟨u,hu,eE⟩:=eE;cases bV:Ty.subs u.1 s.args<;>simp only[bV,cond_true,cond_false] at eE
      ·cases eE
      cases eE;exact sfz _
     unfold core;rw[hd];simp only[bE,hr,hc,eE,hS]
    ·rename_i x Lj hc;split at h
     case h_2=>cases h
     rename_i r eE;cases hb:gw gs (some dst) r.2.2<;>simp only[hb,cond_true,cond_false] at h
     ·cases h
     cases h;refine fin LB ?_ (iu _) (by rw[hd];exact hb);have hS:r.1=S:=by
      unfold ly at eE;split at eE
      case h_2=>cases eE
      rename_i aa r0 e LY;split at eE
      case h_1=>cases eE
      simp only[Option.bind_eq_some_iff] at eE;obtain⟨u,hu,eE⟩:=eE;cases bV:Ty.subs u.1 aa<;>simp only[bV,cond_true,cond_false] at eE
      ·cases eE
      cases eE;exact sfz _
     unfold core;rw[hd];simp only[bE,hr,hc];cases x with
     |func f=>exact absurd rfl (Lj f)
     |_=>simp only[eE,hS]
    ·cases h
  ·rename_i VE cQ;cases hb:(kK o.op&&(pre C S gs o.op).isEmpty)<;>simp only[hb,cond_true,cond_false] at h
   ·cases h
   simp only[Bool.and_eq_true] at hb;split at h
   case h_2=>cases h
   rename_i r hr;cases cU:(nQ r.1&&gw gs (some dst) r.2)<;>simp only[cU,cond_true,cond_false] at h
   ·cases h
   cases h;simp only[Bool.and_eq_true] at cU;have cI:mX C S gs o=[]:=by
        unfold mX;split
        ·rename_i x t e _;exact absurd e (VE x)
        ·rfl
   have iu:∀S':St,gN C (post C S' o) S'=some (S',[]):=fun S'=>by
        have:post C S' o=[]:=by
         unfold post;split
         ·rename_i x t e _;exact absurd e (VE x)
         ·rename_i T t e _;rw[e] at hb;simp[kK] at hb
         ·rename_i T x v e;rw[e] at hb;simp[kK] at hb
         ·rfl
        rw[this];rfl
   refine fin (by rw[cI,List.isEmpty_iff.1 hb.2];rfl) ?_ (iu _) (by rw[hd];exact cU.2);unfold core;rw[hd];simp only[hr,cU.1,cond_true]
 |none=>
  simp only[hd,Option.map_eq_some_iff] at h;obtain⟨l,h,rfl⟩:=h;have cF:ln S o (.none:Sh)=S:=by unfold ln;rw[hd]
  show mu C S ops o=some (ln S o .none,l);rw[cF];have cI:mX C S gs o=[]:=by unfold mX;rw[hd];split<;>first|rfl|(rename_i hx;cases hx)
  unfold za at h;split at h
  ·rename_i T x v bE;split at h
   case h_2=>cases h
   rename_i j ver size off jd;cases he:(bS S [] [v]).isEmpty<;>simp only[he,cond_true,cond_false] at h
   ·cases h
   simp only[Option.map_eq_some_iff] at h;obtain⟨r,hr,rfl⟩:=h;have hS:r.1=S:=by
        unfold qg at hr;split at hr
        case h_2=>cases hr
        rw[jd] at hr;simp only at hr;cases hv:Nat.beq ver (S.ver j)<;>simp only[hv,cond_true,cond_false] at hr
        ·cases hr
        split at hr
        ·revert hr;generalize (_&&_:Bool)=b;intro hr;cases b<;>simp only[cond_true,cond_false] at hr<;>cases hr;rfl
        ·revert hr;generalize (_&&_:Bool)=b;intro hr;cases b<;>simp only[cond_true,cond_false] at hr<;>cases hr;rfl
        ·cases hr
   refine fin ?_ ?_ ?_ rfl
   ·rw[cI,bE];simp only[pre,qY,jd,List.isEmpty_iff.1 he,List.map_nil,List.append_nil]
   ·unfold core;rw[hd];simp only[bE,hr];rw[←hS]
   ·unfold post;rw[bE];simp only[jd];rfl
  ·rename_i T m k v bE;cases he:(bS S [] [k,v]).isEmpty<;>simp only[he,cond_true,cond_false] at h
   ·cases h
   simp only[Option.map_eq_some_iff] at h;obtain⟨r,hr,rfl⟩:=h;have hS:r.1=S:=by
        unfold oJ at hr;split at hr
        ·rename_i K _ j ver _ _;cases hv:Nat.beq ver (S.ver j)<;>simp only[hv,cond_true,cond_false] at hr
         ·cases hr
         split at hr
         ·revert hr;generalize (_&&_:Bool)=b;intro hr;cases b<;>simp only[cond_true,cond_false] at hr<;>cases hr;rfl
         ·cases hr
        ·cases hr
   refine fin ?_ ?_ ?_ rfl
   ·rw[cI,bE];simp only[pre,qY,List.isEmpty_iff.1 he,List.map_nil,List.append_nil]
   ·unfold core;rw[hd];simp only[bE,hr];rw[←hS]
   ·unfold post;rw[bE];rfl
  ·rename_i x bE;cases h;refine fin ?_ ?_ ?_ rfl
   ·rw[cI,bE];rfl
   ·unfold core;rw[hd];simp only[bE]
   ·unfold post;rw[bE];rfl
  ·cases h
end
def eu (ops:Array Oper)(shs:List Sh)(l:List Nat)(f:Nat→Sh):Nat→Sh:=
 l.foldl (fun f i=>match(ops[i]?).bind (·.dst) with|some d=>bN f d (shs.getD i .none)|none=>f) f
def uH (C:Ctx)(S:St)(ops:Array Oper):Nat→Option (List (Sh×List PI))
 |0=>some []
 |k+1=>(uH C S ops k).bind fun q=>match ops[k]? with
  |some o=>(qm C (S.withR (eu ops (q.map (·.1)) (List.range k) S.r)) ops o).map fun r=>q++[r]
  |none=>none
def cT (ops:Array Oper):Nat→List Nat
 |0=>[]
 |k+1=>cT ops k++[match ops[k]? with
  |some o=>o.after.toList.foldr (fun e m=>bif Region.binds .any e then Nat.lor (Nat.lor (dc e.on) ((cT ops k).getD e.on 0)) m else m) 0
  |none=>0]
def abd (ops:Array Oper)(o:Oper):List Nat:=jG o.op++DM ops o
def Ux (ops:Array Oper)(nc:List (List Nat))(clo:List Nat)(i:Nat):Bool:=
 match ops[i]? with
 |some o=>(nc.getD i []).all (ar (clo.getD i 0))&&(o.after.toList.all fun e=> !Region.binds .any e||Nat.blt e.on i)&&
   (abd ops o).all fun t=>(List.range ops.size).all fun j=>match(ops[j]?).bind (·.dst) with
     |some d=> !Nat.beq d t||((Nat.blt j i&&ar (clo.getD i 0) j)||ar (clo.getD j 0) i)
     |none=>true
 |none=>false
def DI (ops:Array Oper)(i:Nat):Bool:=match ops[i]? with|some o=>o.after.toList.all fun e=> !Region.binds .any e||Nat.blt e.on i|none=>false
def zb (ops:Array Oper)(nc:List (List Nat))(clo:List Nat)(m:Nat):Bool:=(List.range m).all (Ux ops nc clo)&&(List.range ops.size).all (DI ops)
def l8 (clo:List Nat):Nat→Nat
 |0=>0
 |k+1=>bif (List.range k).all (ar (clo.getD k 0)) then l8 clo k else k+1
theorem abS (clo:List Nat):∀k,l8 clo k≤k
 |0=>Nat.le_refl _
 |k+1=>by
  unfold l8;cases(List.range k).all (ar (clo.getD k 0)) with
  |true=>exact Nat.le_succ_of_le (abS clo k)
  |false=>exact Nat.le_refl _
theorem abR (clo:List Nat):∀k i,l8 clo k≤i→i<k→∀j,j<i→ar (clo.getD i 0) j=true
 |0,i,_,h=>by omega
 |k+1,i,h1,h2=>by
  unfold l8 at h1;cases hb:(List.range k).all (ar (clo.getD k 0)) with
  |true=>
   rw[hb] at h1;by_cases e:i=k
   ·subst e;exact fun j hj=>List.all_eq_true.1 hb j (List.mem_range.2 hj)
   ·exact abR clo k i h1 (by omega)
  |false=>rw[hb] at h1;simp only[cond_false] at h1;omega
def Uy (C:Ctx)(ops:Array Oper)(S:St):Option (St×List PI):=
 (uH C S ops (l8 (cT ops ops.size) ops.size)).bind fun q=>
    bif zb ops (mS (q.map (·.2)) (l8 (cT ops ops.size) ops.size)) (cT ops ops.size) (l8 (cT ops ops.size) ops.size) then
     (lx C ops (List.range' (l8 (cT ops ops.size) ops.size) (ops.size-l8 (cT ops ops.size) ops.size)) (S.withR (eu ops (q.map (·.1)) (List.range (l8 (cT ops ops.size) ops.size)) S.r))).map fun r=>(r.1,(q.map (·.2)).flatten++r.2)
    else none
theorem Il (ops:Array Oper)(shs:List Sh)(i:Nat)(l:List Nat)(f:Nat→Sh):eu ops shs (i::l) f=eu ops shs l (match(ops[i]?).bind (·.dst) with|some d=>bN f d (shs.getD i .none)|none=>f):=rfl
theorem BX {ops:Array Oper}{shs:List Sh}{t:Nat}:∀{l:List Nat} {f:Nat→Sh},(∀i,i∈l→(ops[i]?).bind (·.dst)≠some t)→eu ops shs l f t=f t
 |[],_,_=>rfl
 |i::l,f,h=>by
  rw[Il,BX fun j hj=>h j (List.mem_cons_of_mem _ hj)];have:=h i (List.mem_cons_self ..);cases hd:(ops[i]?).bind (·.dst) with
  |none=>rfl
  |some d=>exact bl _ _ (fun e=>this (by rw[hd,e]))
def IX (ops:Array Oper):Prop:=∀(i j t:Nat),(ops[i]?).bind (·.dst)=some t→(ops[j]?).bind (·.dst)=some t→i=j
theorem Ik {ops:Array Oper}(ho:IX ops){shs:List Sh}{t i:Nat}(ht:(ops[i]?).bind (·.dst)=some t):∀{l:List Nat} {f:Nat→Sh},i∈l→eu ops shs l f t=shs.getD i .none
 |[],_,h=>nomatch h
 |j::l,f,h=>by
  rw[Il];by_cases hl:i∈l
  ·exact Ik ho ht hl
  ·have e:i=j:=(List.mem_cons.1 h).resolve_right hl;subst e;rw[BX fun k hk e=>hl (by rw[ho i k t ht e];exact hk),ht];exact aP _ _ _
theorem abJ {ops:Array Oper}(ho:IX ops){shs PV:List Sh}{l m:List Nat}{f:Nat→Sh}{t:Nat}(h1:∀i,(ops[i]?).bind (·.dst)=some t→(i∈l↔i∈m))(h2:∀i,i∈l→(ops[i]?).bind (·.dst)=some t→shs.getD i .none=PV.getD i .none):eu ops shs l f t=eu ops PV m f t:=by
 by_cases hh:∃i,i∈l∧(ops[i]?).bind (·.dst)=some t
 ·obtain⟨i,hi,ht⟩:=hh;rw[Ik ho ht hi,Ik ho ht ((h1 i ht).1 hi),h2 i hi ht]
 ·rw[BX fun i hi e=>hh ⟨i,hi,e⟩,BX fun i hi e=>hh ⟨i,(h1 i e).2 hi,e⟩]
theorem ass {ops:Array Oper}(h:(ops.toList.filterMap (·.dst)).Nodup):IX ops:=by
 intro i j t hi hj;rw[Option.bind_eq_some_iff] at hi hj;obtain⟨oi,h1,h2⟩:=hi;obtain⟨oj,h3,h4⟩:=hj;by_cases e:i=j
 ·exact e
 ·exact(rP.dst_once h h1 h3 h2 h4 e).elim
theorem Kr {C:Ctx}{S:St}{ops:Array Oper}:∀{k:Nat} {q:List (Sh×List PI)},uH C S ops k=some q→q.length=k∧∀i,i<k→∃o,ops[i]?=some o∧
 qm C (S.withR (eu ops (q.map (·.1)) (List.range i) S.r)) ops o=some ((q.map (·.1)).getD i .none,(q.map (·.2)).getD i [])
 |0,q,h=>by simp only[uH,Option.some.injEq] at h;subst h;exact⟨rfl,fun i hi=>by omega⟩
 |k+1,q,h=>by
  simp only[uH,Option.bind_eq_some_iff] at h;obtain⟨p,hp,h⟩:=h;split at h
  case h_2=>cases h
  rename_i o ho;simp only[Option.map_eq_some_iff] at h;obtain⟨r,hr,rfl⟩:=h;obtain⟨l1,aQ⟩:=Kr hp;have same:∀i,i≤k→eu ops ((p++[r]).map (·.1)) (List.range i) S.r=eu ops (p.map (·.1)) (List.range i) S.r:=by
   intro i hi;have key:∀(l:List Nat) (f:Nat→Sh),(∀j,j∈l→j<p.length)→eu ops ((p++[r]).map (·.1)) l f=eu ops (p.map (·.1)) l f:=by
    intro l
    induction l with
    |nil=>intro f _;rfl
    |cons j l ih=>
     intro f hl;have hj:=hl j (List.mem_cons_self ..);have e:((p++[r]).map (·.1)).getD j .none=(p.map (·.1)).getD j .none:=by
       rw[List.map_append,List.getD_eq_getElem?_getD,List.getElem?_append_left (by simpa using hj),←List.getD_eq_getElem?_getD]
     rw[Il,Il,e,ih _ fun m hm=>hl m (List.mem_cons_of_mem _ hm)]
   exact key _ _ fun j hj=>by have:=List.mem_range.1 hj;omega
  refine⟨by simp[l1],fun i hi=>?_⟩;by_cases e:i=k
  ·subst e;refine⟨o,ho,?_⟩;rw[same i (Nat.le_refl _),hr];have e1:((p++[r]).map (·.1)).getD i .none=r.1:=by
    rw[List.map_append,List.getD_eq_getElem?_getD,List.getElem?_append_right (by simp[l1])];simp[l1]
   have e2:((p++[r]).map (·.2)).getD i []=r.2:=by
    rw[List.map_append,List.getD_eq_getElem?_getD,List.getElem?_append_right (by simp[l1])];simp[l1]
   rw[e1,e2]
  ·obtain⟨o',h1,h2⟩:=aQ i (by omega);refine⟨o',h1,?_⟩;rw[same i (by omega),h2];have:i<p.length:=by omega
   simp only[List.map_append,List.getD_eq_getElem?_getD];rw[List.getElem?_append_left (by simpa using this),List.getElem?_append_left (by simpa using this)]
theorem Du (ops:Array Oper):∀k,(cT ops k).length=k
 |0=>rfl
 |k+1=>by simp[cT,Du ops k]
theorem TR (ops:Array Oper){k m i:Nat}(h:i<k)(hm:k≤m):(cT ops m).getD i 0=(cT ops k).getD i 0:=by
 induction m with
 |zero=>omega
 |succ m ih=>
  by_cases e:k=m+1
  ·rw[e]
  ·rw[←ih (by omega)];simp only[cT,List.getD_eq_getElem?_getD];rw[List.getElem?_append_left (by rw[Du];omega)]
theorem Dv {ops:Array Oper}{N i m:Nat}{o:Oper}(hi:i<N)(ho:ops[i]?=some o)(ah:(o.after.toList.all fun e=> !Region.binds .any e||Nat.blt e.on i)=true)(h:ar ((cT ops N).getD i 0) m=true):
 ∃e,e∈o.after.toList∧Region.binds .any e=true∧(m=e.on∨ar ((cT ops N).getD e.on 0) m=true):=by
 rw[TR ops (k:=i+1) (by omega) (by omega)] at h
 have e1:(cT ops (i+1)).getD i 0=o.after.toList.foldr (fun e m=>bif Region.binds .any e then Nat.lor (Nat.lor (dc e.on) ((cT ops i).getD e.on 0)) m else m) 0:=by
  simp only[cT,List.getD_eq_getElem?_getD];rw[List.getElem?_append_right (by rw[Du];exact Nat.le_refl _),Du];simp[ho]
 rw[e1] at h;have aQ:=List.all_eq_true.1 ah;generalize o.after.toList=l at h aQ
 induction l with
 |nil=>rw[oG] at h;simp at h
 |cons e l ih=>
  simp only[List.foldr_cons] at h;cases hb:Region.binds .any e<;>rw[hb] at h<;>simp only[cond_true,cond_false] at h
  ·obtain⟨e',h1,h2⟩:=ih h (fun x hx=>aQ x (List.mem_cons_of_mem _ hx));exact⟨e',List.mem_cons_of_mem _ h1,h2⟩
  ·rw[dU,dU,Bool.or_eq_true,Bool.or_eq_true] at h;have mL:e.on<i:=by
        have:=aQ e (List.mem_cons_self ..);rw[hb] at this;simpa [Nat.blt_eq] using this
   rcases h with(h|h)|h
   ·refine⟨e,List.mem_cons_self ..,hb,.inl ?_⟩;have:=gp 0 e.on m;have z:ar 0 m=false:=by rw[oG];simp
    rw[dU,z,Bool.false_or,Bool.false_or,h] at this;exact(cq this.symm).symm
   ·refine⟨e,List.mem_cons_self ..,hb,.inr ?_⟩;rw[TR ops mL (by omega)];exact h
   ·obtain⟨e',h1,h2⟩:=ih h (fun x hx=>aQ x (List.mem_cons_of_mem _ hx));exact⟨e',List.mem_cons_of_mem _ h1,h2⟩
section
variable {C:Ctx} {S:St} {ρ:Env} {σ:Im} {own:Nat→Option Nat} {hv:Nat→Value} {w0:World} {σ0:Base} {A:Nat→Prop} {a:Act} {w:World} {n:Nat} {ids:List Nat} {Φ:aL}
theorem abe {ops:Array Oper}{listed:Array Bool}{E:Nat}(aK:listed.size=ops.size)(hl:∀i,listed.getD i false=ar E i)(i:Nat):i∈Region.ready .any ops listed↔i∈jM ops E:=by
 unfold Region.ready jM;simp only[List.mem_filter,List.mem_range];refine and_congr_right fun hi=>?_;have h1:listed.getD i true=ar E i:=by
  rw[←hl i];simp only[Array.getD_eq_getD_getElem?];rw[Array.getElem?_eq_getElem (by omega)];rfl
 have h2:ops[i]?=some ops[i]:=Array.getElem?_eq_getElem hi;rw[h1,h2];simp only[Option.map_some,Option.getD_some,←Array.all_toList,hl]
def rn (ops:Array Oper)(E:Nat):Nat→Prop:=fun t=>∃i o,ar E i=true∧ops[i]?=some o∧o.dst=some t
def ou (ops:Array Oper)(E:Nat):Nat:=((List.range ops.size).filter fun i=> !ar E i).length
theorem axa {ops:Array Oper}{E i:Nat}(hi:i<ops.size)(hb:ar E i=false):ou ops E=ou ops (Nat.lor E (dc i))+1:=by
 unfold ou;obtain⟨l1,l2,hl⟩:=List.append_of_mem (List.mem_range.2 hi);have aZ:=List.nodup_range (n:=ops.size);rw[hl,List.nodup_append] at aZ;obtain⟨_,h2,h3⟩:=aZ;rw[List.nodup_cons] at h2;have g1:∀j,j∈l1→j≠i:=fun j hj=>h3 j hj i (List.mem_cons_self ..);have g2:∀j,j∈l2→j≠i:=fun j hj e=>h2.1 (e▸hj)
 have c:∀l:List Nat,(∀j,j∈l→j≠i)→(l.filter fun j=> !ar (Nat.lor E (dc i)) j)=l.filter fun j=> !ar E j:=by
  intro l hl;apply List.filter_congr;intro j hj;rw[gp,dI (fun e=>hl j hj e.symm),Bool.or_false]
 have cV:ar (Nat.lor E (dc i)) i=true:=by rw[gp,Nat.beq_refl,Bool.or_true]
 rw[hl];simp only[List.filter_append,List.filter_cons,c l1 g1,c l2 g2,hb,cV,Bool.not_true,Bool.not_false,if_true,Bool.false_eq_true,if_false,List.length_append,List.length_cons];omega
theorem ajy {rd:Option Nat}(hC:CtxOK C σ0)(aX:db C)(hΦ:cM C Φ)(hY:mf C Φ w0 σ0){a0:Act}(Lh:a0.tmps.size=n){ops:Array Oper}(ax:og n ops=true)(dY:uK ops=true){m:Nat}(hm:m≤ops.size){q:List (Sh×List PI)}(hq:uH C S ops m=some q)
 (qz:zb ops (mS (q.map (·.2)) m) (cT ops ops.size) m=true) (vj:∀i,m≤i→i<ops.size→∀j,j<i→ar ((cT ops ops.size).getD i 0) j=true) {Q:Exit→Act→World→Prop} {ρ':Env}
 (hK:∀listed a' w',listed.size=ops.size→(∀i,listed.getD i false=decide (i<m))→SameBut (ns ops) a0 a'→Good C w0 σ0 (S.withR (eu ops (q.map (·.1)) (List.range m) S.r)) ρ' (jO ops (List.range m)) a' w'→wpAnyIn (FR rd) 0 C.P .any ops Q (ops.size-m) listed a' w'):
 ∀(k E:Nat) (listed:Array Bool) (ρ:Env) (a:Act) (w:World),ou ops E=k→(∀j,ar E j=true→j<m)→(∀j,j<ops.size→ar E j=true→∀m,ar ((cT ops ops.size).getD j 0) m=true→ar E m=true)→listed.size=ops.size→(∀i,listed.getD i false=ar E i)→SameBut (ns ops) a0 a→
  Good C w0 σ0 (S.withR (eu ops (q.map (·.1)) ((List.range m).filter (ar E)) S.r)) ρ (rn ops E) a w→PI.runs Φ (dE (q.map (·.2)) (List.range m) E) ρ=some ρ'→wpAnyIn (FR rd) 0 C.P .any ops Q k listed a w:=by
 have Ex:=ax;simp only[og,Bool.and_eq_true] at ax;have aZ:=ld ax.1;have Lv:=ass aZ;obtain⟨hlen,aQ⟩:=Kr hq;unfold zb at qz;rw[Bool.and_eq_true] at qz
 have zl:∀i,i<ops.size→∀o,ops[i]?=some o→(o.after.toList.all fun e=> !Region.binds .any e||Nat.blt e.on i)=true:=by
  intro i hi o ho;have:=List.all_eq_true.1 qz.2 i (List.mem_range.2 hi);unfold DI at this;rw[ho] at this;exact this
 have anZ:∀i,i<m→∀o,ops[i]?=some o→((mS (q.map (·.2)) m).getD i []).all (ar ((cT ops ops.size).getD i 0))=true∧
  ∀t,t∈abd ops o→∀j,j<ops.size→(ops[j]?).bind (·.dst)=some t→(j<i∧ar ((cT ops ops.size).getD i 0) j=true)∨ar ((cT ops ops.size).getD j 0) i=true:=by
  intro i hi o ho;have:=List.all_eq_true.1 qz.1 i (List.mem_range.2 hi);unfold Ux at this;rw[ho] at this;simp only[Bool.and_eq_true] at this;refine⟨this.1.1,fun t ht j hj hd=>?_⟩;have:=List.all_eq_true.1 (List.all_eq_true.1 this.2 t ht) j (List.mem_range.2 hj);rw[hd] at this;simp only[Nat.beq_refl,Bool.not_true,Bool.false_or,Bool.or_eq_true,Bool.and_eq_true,Nat.blt_eq] at this;exact this
 have Sq:∀(k E:Nat) (listed:Array Bool) (ρ:Env) (a:Act) (w:World),(∀i,i<m→ar E i=true)→ou ops E=k→(∀j,ar E j=true→j<m)→listed.size=ops.size→(∀i,listed.getD i false=ar E i)→SameBut (ns ops) a0 a→
  Good C w0 σ0 (S.withR (eu ops (q.map (·.1)) ((List.range m).filter (ar E)) S.r)) ρ (rn ops E) a w→PI.runs Φ (dE (q.map (·.2)) (List.range m) E) ρ=some ρ'→wpAnyIn (FR rd) 0 C.P .any ops Q k listed a w:=by
  intro k E listed ρ a w ij hk sA aK hl hn hg aj;have hb:∀i,ar E i=decide (i<m):=by
   intro i;by_cases h:i<m
   ·rw[ij i h,decide_eq_true h]
   ·rw[decide_eq_false h];cases hb:ar E i with
    |false=>rfl
    |true=>exact absurd (sA i hb) h
  have KT:dE (q.map (·.2)) (List.range m) E=[]:=by
   unfold dE;rw[List.flatMap_eq_nil_iff];intro i hi;rw[ij i (List.mem_range.1 hi)];rfl
  rw[KT] at aj;simp only[PI.runs,Option.some.injEq] at aj;subst aj;have amI:ou ops E=ops.size-m:=by
   unfold ou
   have key:∀N,m≤N→((List.range N).filter fun i=> !ar E i).length=N-m:=by
        intro N
        induction N with
        |zero=>intro _;simp
        |succ N ih=>
         intro hN;rw[List.range_succ,List.filter_append,List.length_append];by_cases h:m≤N
         ·rw[ih h];simp[hb N,Nat.not_lt.2 h];omega
         ·have:m=N+1:=by omega
          have e:(List.range N).filter (fun i=> !ar E i)=[]:=by
           rw[List.filter_eq_nil_iff];intro i hi;rw[ij i (by have:=List.mem_range.1 hi;omega)];simp
          have hN':ar E N=true:=ij N (by omega);rw[e];simp[hN'];omega
   exact key _ hm
  have ef:(List.range m).filter (ar E)=List.range m:=List.filter_eq_self.2 fun i hi=>ij i (List.mem_range.1 hi);rw[ef] at hg;have mN:rn ops E=jO ops (List.range m):=by
   funext t;apply propext;constructor
   ·rintro⟨i,o,h1,h2,h3⟩;exact⟨i,o,List.mem_range.2 (sA i h1),h2,h3⟩
   ·rintro⟨i,o,h1,h2,h3⟩;exact⟨i,o,ij i (List.mem_range.1 h1),h2,h3⟩
  rw[mN] at hg;rw[←hk,amI];exact hK listed a w aK (fun i=>by rw[hl i,hb i]) hn hg
 intro k
 induction k with
 |zero=>
  intro E listed ρ a w hk sA D3 aK hl hn hg aj;refine Sq 0 E listed ρ a w (fun i hi=>?_) hk sA aK hl hn hg aj;cases hb:ar E i with
  |true=>rfl
  |false=>
   have:i∈(List.range ops.size).filter fun i=> !ar E i:=List.mem_filter.2 ⟨List.mem_range.2 (by omega),by rw[hb];rfl⟩;unfold ou at hk;rw[List.length_eq_zero_iff.1 hk] at this;cases this
 |succ k ih=>
  intro E listed ρ a w hk sA D3 aK hl hn hg aj;by_cases ij:∀i,i<m→ar E i=true
  ·exact Sq (k+1) E listed ρ a w ij hk sA aK hl hn hg aj
  refine⟨fun he=>?_,fun i hi=>?_⟩
  ·
   obtain⟨i,hi,anI⟩:∃i,(i<m∧ar E i=false)∧∀j,j<i→ar E j=true:=by
        have hex:∃i,i<m∧ar E i=false:=by
         refine Classical.byContradiction fun ec=>ij fun i hi=>?_;cases hb:ar E i with
         |true=>rfl
         |false=>exact absurd ⟨i,hi,hb⟩ ec
        obtain⟨i,hi⟩:=hex
        induction i using Nat.strongRecOn with
        |ind i kg=>
         by_cases hh:∃j,j<i∧ar E j=false
         ·obtain⟨j,hj,hb⟩:=hh;exact kg j hj ⟨by omega,hb⟩
         ·refine⟨i,hi,fun j hj=>?_⟩;cases hb:ar E j with
          |true=>rfl
          |false=>exact absurd ⟨j,hj,hb⟩ hh
   have lF:i<ops.size:=by omega
   have ho:ops[i]?=some ops[i]:=Array.getElem?_eq_getElem lF;have cE:i∈jM ops E:=by
        unfold jM;simp only[List.mem_filter,List.mem_range,Bool.and_eq_true,Bool.not_eq_true',ho];refine⟨lF,hi.2,?_⟩;rw[List.all_eq_true];intro e gQ;have:=List.all_eq_true.1 (zl i lF _ ho) e gQ;cases hb:Region.binds .any e with
        |false=>rfl
        |true=>
         rw[hb] at this;simp only[Bool.not_true,Bool.false_or,Nat.blt_eq] at this;rw[anI _ this];rfl
   rw[←abe aK hl,he] at cE;cases cE
  ·rw[abe aK hl] at hi;unfold jM at hi;simp only[List.mem_filter,List.mem_range,Bool.and_eq_true,Bool.not_eq_true'] at hi;obtain⟨bx,cP,qt⟩:=hi;have VI:ops[i]?=some ops[i]:=Array.getElem?_eq_getElem bx;generalize ops[i]=o at VI;have ho:=VI;rw[ho] at qt;simp only at qt;have o2:=zl i bx o ho;have uT:∀m,ar ((cT ops ops.size).getD i 0) m=true→ar E m=true:=by
        intro m hm;obtain⟨e,gh,iY,KS⟩:=Dv bx ho o2 hm;have hE:ar E e.on=true:=by
         have:=List.all_eq_true.1 qt e gh
         rwa [iY,Bool.not_true,Bool.false_or] at this
        rcases KS with rfl|KS
        ·exact hE
        ·have mL:e.on<i:=by
          have:=List.all_eq_true.1 o2 e gh;rw[iY] at this;simpa [Nat.blt_eq] using this
         exact D3 e.on (by omega) hE m KS
   have jb:i<m:=by
        refine Classical.byContradiction fun ec=>ij fun j hj=>?_;exact uT j (vj i (by omega) bx j (by omega))
   obtain⟨o',dq,ja⟩:=aQ i jb;rw[ho] at dq;cases dq;obtain⟨o1,o3⟩:=anZ i jb o ho;have cQ:((mS (q.map (·.2)) m).getD i []).all (ar E)=true:=by
        rw[List.all_eq_true] at o1 ⊢;exact fun m hm=>uT m (o1 m hm)
   have amL:qm C (S.withR (eu ops (q.map (·.1)) ((List.range m).filter (ar E)) S.r)) ops o=some ((q.map (·.1)).getD i .none,(q.map (·.2)).getD i []):=by
        rw[←ja];refine ajw (S:=S.withR (eu ops (q.map (·.1)) (List.range i) S.r)) fun t ht=>?_;refine abJ Lv (fun j hj=>?_) (fun _ _ _=>rfl);have eR:j<ops.size:=by
         rw[Option.bind_eq_some_iff] at hj;obtain⟨oj,h1,_⟩:=hj;exact(Array.getElem?_eq_some_iff.1 h1).1
        rw[List.mem_filter,List.mem_range,List.mem_range];rcases o3 t ht j eR hj with⟨h1,h2⟩|h1
        ·exact⟨fun _=>h1,fun _=>⟨by omega,uT j h2⟩⟩
        ·constructor
         ·rintro⟨_,mF⟩;have:=D3 j eR mF i h1;rw[cP] at this;cases this
         ·intro fP;exfalso;have key:∀m j,j<ops.size→ar ((cT ops ops.size).getD j 0) m=true→m<j:=by
           intro m j
           induction j using Nat.strongRecOn with
           |ind j kg=>
            intro hj hm;have nG:ops[j]?=some ops[j]:=Array.getElem?_eq_getElem hj;have p2:=zl j hj _ nG;obtain⟨e,e1,e2,e3⟩:=Dv hj nG p2 hm;have mL:e.on<j:=by
                have:=List.all_eq_true.1 p2 e e1;rw[e2] at this;simpa [Nat.blt_eq] using this
            rcases e3 with rfl|e3
            ·exact mL
            ·have:=kg e.on mL (by omega) e3;omega
          have:=key i j eR h1;omega
   have hcp:=ajv amL;rw[abm jb cP cQ,Option.bind_eq_some_iff] at aj;obtain⟨ρ1,hρ1,hρ2⟩:=aj;have sl:∀d,o.dst=some d→¬rn ops E d∧d<a.tmps.size:=by
        intro d hd;refine⟨fun⟨i',o',cV,dq,eC⟩=>?_,?_⟩
        ·have aB:i'≠i:=fun e=>by subst e;rw[cP] at cV;cases cV
         exact rP.dst_once aZ dq ho eC hd aB
        ·have:=List.all_eq_true.1 ax.2 o (by simpa using Array.mem_of_getElem? ho);simp only[hd,Bool.and_eq_true] at this;rw[hn.size,Lh];simpa [Nat.blt_eq] using this.2
   have gR:lQ o.op=true:=by
        have:=List.all_eq_true.1 ax.2 o (by simpa using Array.mem_of_getElem? ho);simp only[Bool.and_eq_true] at this;exact this.1
   have hj:∀j want t,o.guard=some (j,want)→(ops[j]?).bind (·.dst)=some t→rn ops E t:=by
        intro j want t il ht;rw[Option.bind_eq_some_iff] at ht;obtain⟨oj,h1,h2⟩:=ht;have qv:=List.all_eq_true.1 dY o (by simpa using Array.mem_of_getElem? ho);simp only[il] at qv;obtain⟨e,gh,iY⟩:=List.any_eq_true.1 qv;simp only[Bool.and_eq_true] at iY;have h3:=List.all_eq_true.1 qt e gh;rw[iY.1] at h3;simp only[Bool.not_true,Bool.false_or] at h3;exact⟨j,oj,by rw[←cq iY.2];exact h3,h1,h2⟩
   have amH:∀j,j<ops.size→ar (Nat.lor E (dc i)) j=true→∀m,ar ((cT ops ops.size).getD j 0) m=true→ar (Nat.lor E (dc i)) m=true:=by
        intro j hj mF m hm;rw[gp,Bool.or_eq_true] at mF;rw[gp,Bool.or_eq_true];rcases mF with mF|mF
        ·exact .inl (D3 j hj mF m hm)
        ·rw[←cq mF] at hm;exact .inl (uT m hm)
   have main:=Dw (rd:=rd) (K:=wpAnyIn (FR rd) 0 C.P .any ops Q k (listed.setIfInBounds i true)) (Q:=Q) hg hC aX hΦ hY gR sl hj hcp hρ1 (fun a' w' eD nL=>by
        have hA:(fun u=>rn ops E u∨o.dst=some u)=rn ops (Nat.lor E (dc i)):=by
         funext u;apply propext;constructor
         ·rintro(⟨i',o',h1,h2,h3⟩|h1)
          ·exact⟨i',o',by rw[gp,h1,Bool.true_or],h2,h3⟩
          ·exact⟨i,o,by rw[gp,Nat.beq_refl,Bool.or_true],ho,h1⟩
         ·rintro⟨i',o',h1,h2,h3⟩;rw[gp,Bool.or_eq_true] at h1;rcases h1 with h1|h1
          ·exact .inl ⟨i',o',h1,h2,h3⟩
          ·rw[←cq h1,ho] at h2;cases h2;exact .inr h3
        rw[hA] at eD;have hSt:ln (S.withR (eu ops (q.map (·.1)) ((List.range m).filter (ar E)) S.r)) o ((q.map (·.1)).getD i .none)=S.withR (eu ops (q.map (·.1)) ((List.range m).filter (ar (Nat.lor E (dc i)))) S.r):=by
         have am5:∀t,(ln (S.withR (eu ops (q.map (·.1)) ((List.range m).filter (ar E)) S.r)) o ((q.map (·.1)).getD i .none)).r t=eu ops (q.map (·.1)) ((List.range m).filter (ar (Nat.lor E (dc i)))) S.r t:=by
          intro t;by_cases D7:o.dst=some t
          ·have hb:(ops[i]?).bind (·.dst)=some t:=by rw[ho];exact D7
           rw[Ik Lv hb (List.mem_filter.2 ⟨List.mem_range.2 jb,by rw[gp,Nat.beq_refl,Bool.or_true]⟩)];unfold ln;rw[D7];simp[St.setR,aP]
          ·have e1:(ln (S.withR (eu ops (q.map (·.1)) ((List.range m).filter (ar E)) S.r)) o ((q.map (·.1)).getD i .none)).r t=eu ops (q.map (·.1)) ((List.range m).filter (ar E)) S.r t:=by
            unfold ln;split
            ·rename_i d hd;exact bl _ _ (fun e=>D7 (by rw[hd,e]))
            ·rfl
           rw[e1];refine abJ Lv (fun j hj=>?_) (fun _ _ _=>rfl);have fP:¬i=j:=fun e=>by subst e;rw[ho] at hj;exact D7 hj
           rw[List.mem_filter,List.mem_filter,gp,dI fP,Bool.or_false]
         have:∀(X Y:St),X.o=Y.o→X.ver=Y.ver→(∀t,X.r t=Y.r t)→X=Y:=by
          intro X Y h1 h2 h3;cases X;cases Y;simp only at h1 h2 h3;subst h1 h2
          congr 1
          exact funext h3
         refine this _ _ ?_ ?_ am5
         ·unfold ln;split<;>rfl
         ·unfold ln;split<;>rfl
        rw[hSt] at eD;refine ih _ _ ρ1 a' w' (by have:=axa bx cP;omega) (fun j hj=>by rw[gp,Bool.or_eq_true] at hj;rcases hj with hj|hj;exact sA j hj;rw[←cq hj];exact jb) amH (by simpa using aK) (fun j=>?_) (hn.trans (nL.mono fun t e=>⟨o,by simpa using Array.mem_of_getElem? ho,e⟩)) eD hρ2;rw[gp];simp only[Array.getD_eq_getD_getElem?,Array.getElem?_setIfInBounds];by_cases cJ:i=j
        ·subst cJ;simp[aK,bx]
        ·rw[if_neg cJ,dI cJ,Bool.or_false,←hl j];simp only[Array.getD_eq_getD_getElem?])
   simp only[wpOpIn,ho];split
   ·rename_i hw;rw[if_pos hw] at main;exact main
   ·rename_i hw;rw[if_neg hw] at main;exact⟨fun _ _=>trivial,main⟩
theorem auW {rd:Option Nat}(hC:CtxOK C σ0)(aX:db C)(hΦ:cM C Φ)(hY:mf C Φ w0 σ0){ops:Array Oper}(ax:og n ops=true)(dY:uK ops=true)(zl:(List.range ops.size).all (DI ops)=true){m:Nat}
 (vj:∀i,m≤i→i<ops.size→∀j,j<i→ar ((cT ops ops.size).getD i 0) j=true) {Q:Exit→Act→World→Prop} {ρ':Env}:
 ∀(k i:Nat) {S:St} {ρ:Env} {a:Act} {w:World} {r:St×List PI} (listed:Array Bool),i+k=ops.size→m≤i→listed.size=ops.size→(∀j,listed.getD j false=decide (j<i))→a.tmps.size=n→
  Good C w0 σ0 S ρ (jO ops (List.range i)) a w→lx C ops (List.range' i k) S=some r→PI.runs Φ r.2 ρ=some ρ'→
  (∀a' w',SameBut (ns ops) a a'→Good C w0 σ0 r.1 ρ' (jO ops (List.range ops.size)) a' w'→Q .normal a' w')→wpAnyIn (FR rd) 0 C.P .any ops Q k listed a w:=by
 have Ex:=ax;simp only[og,Bool.and_eq_true] at ax;have aZ:=ld ax.1
 have I8:∀i,i<ops.size→∀o,ops[i]?=some o→(o.after.toList.all fun e=> !Region.binds .any e||Nat.blt e.on i)=true:=by
  intro i hi o ho;have:=List.all_eq_true.1 zl i (List.mem_range.2 hi);unfold DI at this;rw[ho] at this;exact this
 have mem:∀(listed:Array Bool) (i j:Nat),listed.size=ops.size→(∀j,listed.getD j false=decide (j<i))→(j∈Region.ready .any ops listed↔(j<ops.size∧¬j<i∧∀o,ops[j]?=some o→(o.after.toList.all fun e=> !Region.binds .any e||decide (e.on<i))=true)):=by
  intro listed i j aK hl;unfold Region.ready;simp only[List.mem_filter,List.mem_range];refine and_congr_right fun hj=>?_;have h1:listed.getD j true=decide (j<i):=by
   rw[←hl j];simp only[Array.getD_eq_getD_getElem?];rw[Array.getElem?_eq_getElem (by omega)];rfl
  have h2:ops[j]?=some ops[j]:=Array.getElem?_eq_getElem hj;rw[h1,h2];simp only[Option.map_some,Option.getD_some,←Array.all_toList,hl,Bool.and_eq_true,Bool.not_eq_true',decide_eq_false_iff_not,Option.some.injEq,forall_eq']
 intro k
 induction k with
 |zero=>
  intro i S ρ a w r listed hik hmi aK hl hn hg hr aj hQ;simp only[List.range'_zero,lx,Option.some.injEq] at hr;subst hr;rw[lj aj] at hQ;refine⟨?_,hQ a w (.refl _ _) ?_⟩
  ·rw[List.eq_nil_iff_forall_not_mem];intro j hj;rw[mem listed i j aK hl] at hj;exact hj.2.1 (by omega)
  ·have:i=ops.size:=by omega
   rw[←this];exact hg
 |succ k ih=>
  intro i S ρ a w r listed hik hmi aK hl hn hg hr aj hQ;have bx:i<ops.size:=by omega
  have ho:ops[i]?=some ops[i]:=Array.getElem?_eq_getElem bx;generalize ops[i]=o at ho;refine⟨fun he=>?_,fun i' cV=>?_⟩
  ·have:i∈Region.ready .any ops listed:=by
        rw[mem listed i i aK hl];refine⟨bx,by omega,fun o' dq=>?_⟩;rw[List.all_eq_true];intro e gQ;have:=List.all_eq_true.1 (I8 i bx o' dq) e gQ;cases hb:Region.binds .any e with
        |false=>rfl
        |true=>
         rw[hb] at this;simp only[Bool.not_true,Bool.false_or,Nat.blt_eq] at this;simpa using this
   rw[he] at this;cases this
  ·rw[mem listed i i' aK hl] at cV;obtain⟨h1,h2,h3⟩:=cV;obtain rfl:i'=i:=by
        refine Classical.byContradiction fun aB=>?_;have dq:ops[i']?=some ops[i']:=Array.getElem?_eq_getElem h1;have uT:=vj i' (by omega) h1 i (by omega);have ah:∀m j,j<ops.size→ar ((cT ops ops.size).getD j 0) m=true→m<j:=by
         intro m j
         induction j using Nat.strongRecOn with
         |ind j kg=>
          intro hj hm;have nG:ops[j]?=some ops[j]:=Array.getElem?_eq_getElem hj;have p2:=I8 j hj _ nG;obtain⟨e,e1,e2,e3⟩:=Dv hj nG p2 hm;have mL:e.on<j:=by
           have:=List.all_eq_true.1 p2 e e1;rw[e2] at this;simpa [Nat.blt_eq] using this
          rcases e3 with rfl|e3
          ·exact mL
          ·have:=kg e.on mL (by omega) e3;omega
        obtain⟨e,e1,e2,e3⟩:=Dv h1 dq (I8 i' h1 _ dq) uT;have h4:=List.all_eq_true.1 (h3 _ dq) e e1;rw[e2] at h4;simp only[Bool.not_true,Bool.false_or,decide_eq_true_eq] at h4;rcases e3 with e3|e3
        ·omega
        ·have:=ah i e.on (by omega) e3;omega
   rw[List.range'_succ] at hr;simp only[lx,ho] at hr;simp only[Option.bind_eq_some_iff,Option.map_eq_some_iff] at hr;obtain⟨r1,gi,q,hq,rfl⟩:=hr;simp only[l5,Option.bind_eq_some_iff] at aj;obtain⟨ρ1,hρ1,hρ2⟩:=aj;have sl:∀d,o.dst=some d→¬jO ops (List.range i') d∧d<a.tmps.size:=by
        intro d hd;refine⟨fun⟨i2,o2,sq,cW,dk⟩=>?_,?_⟩
        ·have aB:i2≠i':=by have:=List.mem_range.1 sq;omega
         exact rP.dst_once aZ cW ho dk hd aB
        ·have:=List.all_eq_true.1 ax.2 o (by simpa using Array.mem_of_getElem? ho);simp only[hd,Bool.and_eq_true] at this;rw[hn];simpa [Nat.blt_eq] using this.2
   have gR:lQ o.op=true:=by
        have:=List.all_eq_true.1 ax.2 o (by simpa using Array.mem_of_getElem? ho);simp only[Bool.and_eq_true] at this;exact this.1
   have hj:∀j want t,o.guard=some (j,want)→(ops[j]?).bind (·.dst)=some t→jO ops (List.range i') t:=by
        intro j want t il ht;rw[Option.bind_eq_some_iff] at ht;obtain⟨oj,h1,h2⟩:=ht;have qv:=List.all_eq_true.1 dY o (by simpa using Array.mem_of_getElem? ho);simp only[il] at qv;obtain⟨e,gh,iY⟩:=List.any_eq_true.1 qv;simp only[Bool.and_eq_true] at iY;have h4:=List.all_eq_true.1 (h3 o ho) e gh;rw[iY.1] at h4;simp only[Bool.not_true,Bool.false_or,decide_eq_true_eq] at h4;exact⟨j,oj,List.mem_range.2 (by rw[←cq iY.2];exact h4),h1,h2⟩
   have main:=Dw (rd:=rd) (K:=wpAnyIn (FR rd) 0 C.P .any ops Q k (listed.setIfInBounds i' true)) (Q:=Q) hg hC aX hΦ hY gR sl hj gi hρ1 (fun a' w' eD fB=>by
        have:(fun u=>jO ops (List.range i') u∨o.dst=some u)=jO ops (List.range (i'+1)):=by
         funext u;apply propext;constructor
         ·rintro(⟨i2,o2,h1,h2,h3⟩|h1)
          ·exact⟨i2,o2,List.mem_range.2 (by have:=List.mem_range.1 h1;omega),h2,h3⟩
          ·exact⟨i',o,List.mem_range.2 (by omega),ho,h1⟩
         ·rintro⟨i2,o2,g1,g2,g3⟩;by_cases e:i2=i'
          ·rw[e,ho] at g2;cases g2;exact .inr g3
          ·exact .inl ⟨i2,o2,List.mem_range.2 (by have:=List.mem_range.1 g1;omega),g2,g3⟩
        rw[this] at eD;refine ih (i'+1) _ (by omega) (by omega) (by simpa using aK) (fun j=>?_) (fB.size.trans hn) eD hq hρ2 (fun a2 w2 s2 g2=>hQ a2 w2 ((fB.mono fun t e=>⟨o,by simpa using Array.mem_of_getElem? ho,e⟩).trans s2) g2);simp only[Array.getD_eq_getD_getElem?,Array.getElem?_setIfInBounds];by_cases cJ:i'=j
        ·subst cJ;simp[aK,bx]
        ·rw[if_neg cJ];have:=hl j;simp only[Array.getD_eq_getD_getElem?] at this;rw[this];by_cases ah:j<i'
         ·rw[decide_eq_true ah,decide_eq_true (by omega:j<i'+1)]
         ·rw[decide_eq_false ah,decide_eq_false (by omega:¬j<i'+1)])
   simp only[wpOpIn,ho];split
   ·rename_i hw;rw[if_pos hw] at main;exact main
   ·rename_i hw;rw[if_neg hw] at main;exact⟨fun _ _=>trivial,main⟩
end
def Ia (C:Ctx)(n:Nat)(ids:List Nat)(ops:Array Oper)(draw:Bool)(S:Snap):Option (Snap×List PI):=
 bif og n ops then
    bif draw then
     bif uK ops&&Np ops&&C.P.follows .mixedOrders then
        match Uy C ops (S.st ids) with
        |some r=>some (⟨rq (ei r.1) r.1 S.rs (ops.toList.filterMap (·.dst)),ids.map fun j=>fV r.1 (r.1.o j)⟩,r.2)
        |none=>
        (dS C ops (List.range ops.size) (S.st ids)).bind fun X=>zm X fun X=>zm (mS X ops.size) fun nc=>
         (Snap.hard ⟨S.rs.map fun s=>ji (S.st ids) (bY s),ids.map fun j=>fV (S.st ids) ((S.st ids).o j)⟩ fun T0=>BV ops (oD C.P ops) (NY C ops n ids X nc) ops.size [(0,T0)]).map fun T=>(⟨T.rs.map (ei (T.stO ids)),ids.map fun j=>fV (T.stO ids) ((T.stO ids).o j)⟩,X.flatten)
     else none
    else bif UJ ops then(lx C ops (List.range ops.size) (S.st ids)).map fun r=>(⟨rq (ei r.1) r.1 S.rs (ops.toList.filterMap (·.dst)),ids.map fun j=>fV r.1 (r.1.o j)⟩,r.2) else none
 else none
def H9 (C:Ctx)(n:Nat)(ids:List Nat)(ops:Array Oper)(draw:Bool)(S:Snap):Option (Snap×List PI):=
 (Ia C n ids ops draw S).bind fun r=>r.1.hard fun T=>some (T,r.2)
theorem auc (C:Ctx)(n:Nat)(ids:List Nat)(ops:Array Oper)(draw:Bool)(S:Snap):H9 C n ids ops draw S=Ia C n ids ops draw S:=by
 unfold H9;cases Ia C n ids ops draw S with
 |none=>rfl
 |some r=>rw[Option.bind_some,Snap.hard_eq]
def tN (ops:Array Oper)(E:Nat):Nat→Prop:=fun t=>∃i o,ar E i=true∧ops[i]?=some o∧o.dst=some t
section
variable {C:Ctx} {S:St} {ρ:Env} {σ:Im} {own:Nat→Option Nat} {hv:Nat→Value} {w0:World} {σ0:Base} {A:Nat→Prop} {a:Act} {w:World} {n:Nat} {ids:List Nat} {Φ:aL}
theorem H7 {ops:Array Oper}{listed:Array Bool}{E:Nat}(aK:listed.size=ops.size)(hl:∀i,listed.getD i false=ar E i)(i:Nat):i∈Region.ready .any ops listed↔i∈jM ops E:=by
 unfold Region.ready jM;simp only[List.mem_filter,List.mem_range];refine and_congr_right fun hi=>?_;have h1:listed.getD i true=ar E i:=by
  rw[←hl i];simp only[Array.getD_eq_getD_getElem?];rw[Array.getElem?_eq_getElem (by omega)];rfl
 have h2:ops[i]?=some ops[i]:=Array.getElem?_eq_getElem hi;rw[h1,h2];simp only[Option.map_some,Option.getD_some,←Array.all_toList,hl]
theorem auA {rd:Option Nat}(hC:CtxOK C σ0)(aX:db C)(hΦ:cM C Φ)(hY:mf C Φ w0 σ0){a0:Act}(Lh:a0.tmps.size=n){ops:Array Oper}(ax:og n ops=true)(dY:uK ops=true){X:List (List PI)}{Q:Exit→Act→World→Prop}{ρ':Env}(vh:Np ops=true)(hQp:∀c a w,¬Q (.panic c) a w):
 ∀(k:Nat) {L:List (Nat×Snap)} {T:Snap},BV ops (oD C.P ops) (NY C ops n ids X (mS X ops.size)) k L=some T→
  (∀a' w',SameBut (ns ops) a0 a'→Good C w0 σ0 (T.stO ids) ρ' (fun t=>∃E,tN ops E t) a' w'→Q .normal a' w')→
  ∀(E:Nat) (U:Snap),(E,U)∈L→∀(listed:Array Bool) (ρ:Env) (a:Act) (w:World),listed.size=ops.size→(∀i,listed.getD i false=ar E i)→SameBut (ns ops) a0 a→
   Good C w0 σ0 (U.stO ids) ρ (tN ops E) a w→PI.runs Φ (dE X (List.range ops.size) E) ρ=some ρ'→wpAnyIn (FR rd) 0 C.P .any ops Q k listed a w:=by
 simp only[og,Bool.and_eq_true] at ax;have aZ:=ld ax.1;intro k
 induction k with
 |zero=>
  intro L T hs hQ E U hm listed ρ a w aK hl hn hg aj;simp only[BV] at hs;split at hs
  case h_2=>cases hs
  rename_i x;cases aQ:(List.range ops.size).all (ar x.1)<;>simp only[aQ,cond_true,cond_false] at hs
  ·cases hs
  cases hs;simp only[List.mem_singleton] at hm;subst hm;simp only at aQ hg hQ aj hl;have ij:=List.all_eq_true.1 aQ;have KT:dE X (List.range ops.size) E=[]:=by
   unfold dE;rw[List.flatMap_eq_nil_iff];intro i hi;rw[ij i hi];rfl
  rw[KT] at aj;simp only[PI.runs,Option.some.injEq] at aj;subst aj;refine⟨?_,hQ a w hn ?_⟩
  ·rw[List.eq_nil_iff_forall_not_mem];intro i hi;rw[H7 aK hl] at hi;unfold jM at hi;simp only[List.mem_filter,Bool.and_eq_true,Bool.not_eq_true'] at hi;rw[ij i hi.1] at hi;cases hi.2.1
  ·obtain⟨σ,own,hv,h⟩:=hg;exact⟨σ,own,hv,h.defers,h.ok,h.le,h.old,h.newc,h.newm,h.below,h.bw,h.owns,h.regs,h.objs,fun t gs s e=>⟨fun g hm=>⟨E,(h.opts t gs s e).1 g hm⟩,(h.opts t gs s e).2⟩,h.frame⟩
 |succ k ih=>
  intro L T hs hQ E U hm listed ρ a w aK hl hn hg aj;simp only[BV,Option.bind_eq_some_iff] at hs;obtain⟨L',hL,hs⟩:=hs;obtain⟨_,cE⟩:=Wu hL;obtain⟨aB,LP⟩:=cE _ hm;have anN:jM ops E≠[]:=fun e=>aB (by unfold mm;rw[e];rfl)
  have bV:∀i,i∈mm ops (oD C.P ops) E→i∈jM ops E:=fun i hi=>by
   unfold mm at hi;split at hi
   ·rename_i i' hp;rw[List.mem_singleton.1 hi];exact(Iu hp).1
   ·exact hi
  have step:∀i,i∈mm ops (oD C.P ops) E→∀Q':Exit→Act→World→Prop,wpOpIn (FR rd) 0 C.P ops Q' i (wpAnyIn (FR rd) 0 C.P .any ops Q k (listed.setIfInBounds i true)) a w:=by
   intro i hi Q';obtain⟨y,hy,hyL⟩:=LP i hi;have hi:=bV i hi;unfold jM at hi;simp only[List.mem_filter,List.mem_range,Bool.and_eq_true,Bool.not_eq_true'] at hi;obtain⟨bx,cP,qt⟩:=hi;simp only[NY] at hy;split at hy
   case h_2=>cases hy
   rename_i o ho;simp only[Option.bind_eq_some_iff] at hy;obtain⟨r,hr,hy⟩:=hy;cases hc:(PI.beqs r.2 (X.getD i [])&&((mS X ops.size).getD i []).all (ar E))<;>simp only[hc,cond_true,cond_false] at hy
   ·cases hy
   cases hy;simp only[Bool.and_eq_true] at hc;have hX:=PI.beqs_eq _ _ hc.1;rw[abm bx cP hc.2,Option.bind_eq_some_iff] at aj;obtain⟨ρ1,hρ1,hρ2⟩:=aj;rw[←hX] at hρ1;rw[ho] at qt;simp only at qt;have sl:∀d,o.dst=some d→¬tN ops E d∧d<a.tmps.size:=by
        intro d hd;refine⟨fun⟨i',o',cV,dq,eC⟩=>?_,?_⟩
        ·have aB:i'≠i:=fun e=>by subst e;rw[cP] at cV;cases cV
         exact rP.dst_once aZ dq ho eC hd aB
        ·have:=List.all_eq_true.1 ax.2 o (by simpa using Array.mem_of_getElem? ho);simp only[hd,Bool.and_eq_true] at this;rw[hn.size,Lh];simpa [Nat.blt_eq] using this.2
   have gR:lQ o.op=true:=by
        have:=List.all_eq_true.1 ax.2 o (by simpa using Array.mem_of_getElem? ho);simp only[Bool.and_eq_true] at this;exact this.1
   have hj:∀j want t,o.guard=some (j,want)→(ops[j]?).bind (·.dst)=some t→tN ops E t:=by
        intro j want t il ht;rw[Option.bind_eq_some_iff] at ht;obtain⟨oj,h1,h2⟩:=ht;have qv:=List.all_eq_true.1 dY o (by simpa using Array.mem_of_getElem? ho);simp only[il] at qv;obtain⟨e,gh,iY⟩:=List.any_eq_true.1 qv;simp only[Bool.and_eq_true] at iY;have h3:=List.all_eq_true.1 qt e gh;rw[iY.1] at h3;simp only[Bool.not_true,Bool.false_or] at h3;exact⟨j,oj,by rw[←cq iY.2];exact h3,h1,h2⟩
   have main:=Dw (rd:=rd) (K:=wpAnyIn (FR rd) 0 C.P .any ops Q k (listed.setIfInBounds i true)) (Q:=Q') hg hC aX hΦ hY gR sl hj hr hρ1 (fun a' w' eD nL=>by
        have hA:(fun u=>tN ops E u∨o.dst=some u)=tN ops (Nat.lor E (dc i)):=by
         funext u;apply propext;constructor
         ·rintro(⟨i',o',h1,h2,h3⟩|h1)
          ·exact⟨i',o',by rw[gp,h1,Bool.true_or],h2,h3⟩
          ·exact⟨i,o,by rw[gp,Nat.beq_refl,Bool.or_true],ho,h1⟩
         ·rintro⟨i',o',h1,h2,h3⟩;rw[gp,Bool.or_eq_true] at h1;rcases h1 with h1|h1
          ·exact .inl ⟨i',o',h1,h2,h3⟩
          ·rw[←cq h1,ho] at h2;cases h2;exact .inr h3
        rw[hA] at eD
        refine ih hs hQ _ _ hyL _ ρ1 a' w' (by simpa using aK) (fun j=>?_) (hn.trans (nL.mono fun t e=>⟨o,by simpa using Array.mem_of_getElem? ho,e⟩)) (by
         have:=eD.snapO U.rs.length ids
         rw[show r.1.snapO U.rs.length ids=⟨rq (ji r.1) r.1 U.rs o.dst.toList,ids.map fun j=>fV r.1 (r.1.o j)⟩ from by
          unfold St.snapO;rw[B0 fun t ht=>?_];rw[TS hr t (fun e=>ht (by rw[e];simp))];rfl] at this
         exact this) hρ2
        rw[gp];simp only[Array.getD_eq_getD_getElem?,Array.getElem?_setIfInBounds];by_cases cJ:i=j
        ·subst cJ;simp[aK,bx]
        ·rw[if_neg cJ,dI cJ,Bool.or_false,←hl j];simp only[Array.getD_eq_getD_getElem?])
   simp only[wpOpIn,ho];split
   ·rename_i hw;rw[if_pos hw] at main;exact main
   ·rename_i hw;rw[if_neg hw] at main;exact⟨fun _ _=>trivial,main⟩
  cases LA:wQ (oD C.P ops) E (jM ops E) with
  |none=>
   have j7:mm ops (oD C.P ops) E=jM ops E:=by unfold mm;rw[LA]
   refine⟨fun he=>?_,fun i hi=>step i (by rw[j7];exact(H7 aK hl i).1 hi) Q⟩;exfalso;refine anN ?_;rw[List.eq_nil_iff_forall_not_mem];intro i hi;rw[←H7 aK hl,he] at hi;cases hi
  |some i=>
   have j7:mm ops (oD C.P ops) E=[i]:=by unfold mm;rw[LA]
   obtain⟨hir,b,hb,amA⟩:=Iu LA;obtain⟨oi,VJ,LD,KF⟩:=afv hb;obtain⟨v,hv,hK⟩:=atr VJ LD (step i (by rw[j7];simp) _);refine axq (fun j o ho=>?_) VJ (fun j o cs b' ho e=>?_) (fun c a' w' h=>(hQp _ _ _ h).elim) k listed a w (fun j oj hj fP kU ec=>KF j oj hj fP (fun Eg=>?_) ec) ((H7 aK hl i).2 hir) hv hK
   ·have:=List.all_eq_true.1 ax.2 o (by simpa using Array.mem_of_getElem? ho);simp only[Bool.and_eq_true] at this;exact this.1
   ·have:=List.all_eq_true.1 vh o (by simpa using Array.mem_of_getElem? ho);rw[e] at this;cases this
   ·have h1:=List.all_eq_true.1 amA j Eg;have h2:=hl j;rw[h1] at h2;simp only[Array.getD_eq_getD_getElem?] at h2 kU;cases uZ:listed[j]? with
    |none=>rw[uZ] at h2;cases h2
    |some x=>
     rw[uZ] at h2 kU;simp only[Option.getD_some] at h2 kU;rw[h2] at kU;cases kU
theorem abD {ops:Array Oper}:∀{l:List Nat} {S:St} {X:List (List PI)},dS C ops l S=some X→X.length=l.length
 |[],S,X,h=>by simp only[dS,Option.some.injEq] at h;subst h;rfl
 |i::l,S,X,h=>by
  simp only[dS] at h;split at h
  case h_2=>cases h
  simp only[Option.bind_eq_some_iff,Option.map_eq_some_iff] at h;obtain⟨r,_,q,hq,rfl⟩:=h;simp[abD hq]
theorem abn (X:List (List PI)):dE X (List.range X.length) 0=X.flatten:=by
 have h0:∀i,ar 0 i=false:=fun i=>by rw[oG];simp
 have key:∀(Y Z:List (List PI)),dE (Y++Z) (List.range' Y.length Z.length) 0=Z.flatten:=by
  intro Y Z
  induction Z generalizing Y with
  |nil=>rfl
  |cons z Z ih=>
   have:=ih (Y++[z]);simp only[List.append_assoc,List.singleton_append,List.length_append,List.length_cons,List.length_nil,Nat.zero_add] at this;rw[List.length_cons,List.range'_succ];have e:dE (Y++z::Z) (Y.length::List.range' (Y.length+1) Z.length) 0=(Y++z::Z).getD Y.length []++dE (Y++z::Z) (List.range' (Y.length+1) Z.length) 0:=by
        unfold dE;rw[List.flatMap_cons,h0];rfl
   rw[e,this,List.flatten_cons]
   congr 1
   simp[List.getD_eq_getElem?_getD]
 have:=key [] X;simp only[List.nil_append,List.length_nil] at this;rw[List.range_eq_range'];exact this
theorem aud (aX:db C)(hΦ:cM C Φ):IY C n ids Φ (H9 C n ids):=by
 intro id ops draw S r hr rd w0 σ0 ρ ρ' a w Q hC hY hn hg aj hQ;rw[auc] at hr;unfold Ia at hr;cases ax:og n ops<;>simp only[ax,cond_true,cond_false] at hr
 ·cases hr
 cases draw with
 |false=>
  simp only[cond_false] at hr;cases Vj:UJ ops<;>simp only[Vj,cond_true,cond_false] at hr
  ·cases hr
  simp only[Option.map_eq_some_iff] at hr;obtain⟨q,hq,rfl⟩:=hr;refine wpIn_region ?_
  have mN:jO ops []=fun _=>False:=by
   funext t;apply propext;constructor
   ·rintro⟨i,o,h,_⟩;cases h
   ·intro h;exact h.elim
  refine rP hC aX hΦ hY ax (List.range ops.size) [] (by simpa using List.nodup_range) (fun p i q o j want hl ho il=>?_) hn (by rw[mN];exact hg) hq aj (fun a' w' gA eD=>hQ a' w' gA (by
   have:=eD.snapF S.rs.length ids
   rw[show q.1.snap S.rs.length ids=⟨rq (ei q.1) q.1 S.rs (ops.toList.filterMap (·.dst)),ids.map fun j=>fV q.1 (q.1.o j)⟩ from by
        unfold St.snap;rw[B0 fun t ht=>?_];rw[J4 hq t (fun i o hi ho e=>ht (List.mem_filterMap.2 ⟨o,by simpa using Array.mem_of_getElem? ho,e⟩))];show _=ei q.1 (bY (S.rs.getD t .none));cases S.rs.getD t .none<;>rfl] at this
   exact this))
  have hi:i<ops.size:=by
   have:i∈List.range ops.size:=by rw[hl];simp
   exact List.mem_range.1 this
  have hb:=List.all_eq_true.1 Vj i (List.mem_range.2 hi);rw[ho] at hb;simp only[il,Nat.blt_eq] at hb;have hp:=List.pairwise_lt_range (n:=ops.size);have qw:j∈List.range ops.size:=List.mem_range.2 (by omega);rw[hl,List.pairwise_append] at hp;obtain⟨_,fm,_⟩:=hp;rw[List.pairwise_cons] at fm;rw[hl,List.mem_append] at qw;simp only[List.nil_append];rcases qw with hm|hm
  ·exact hm
  ·rcases List.mem_cons.1 hm with e|hm
   ·omega
   ·have:=fm.1 j hm;omega
 |true=>
  simp only[cond_true] at hr;cases dY:(uK ops&&Np ops&&C.P.follows .mixedOrders)<;>simp only[dY,cond_true,cond_false] at hr
  ·cases hr
  simp only[Bool.and_eq_true] at dY;have vh:=dY.1.2
  replace dY:uK ops=true∧C.P.follows .mixedOrders=true:=⟨dY.1.1,dY.2⟩
  have h0:∀i,ar 0 i=false:=fun i=>by rw[oG];simp
  split at hr
  case h_1=>
   rename_i r ja;cases hr;generalize LV:l8 (cT ops ops.size) ops.size=m at*;unfold Uy at ja;rw[LV] at ja;have anK:m≤ops.size:=LV▸abS _ _;have vj:∀i,m≤i→i<ops.size→∀j,j<i→ar ((cT ops ops.size).getD i 0) j=true:=LV▸abR _ _;rw[Option.bind_eq_some_iff] at ja;obtain⟨q,hq,ja⟩:=ja;cases qz:zb ops (mS (q.map (·.2)) m) (cT ops ops.size) m<;>simp only[qz,cond_true,cond_false] at ja
   ·cases ja
   rw[Option.map_eq_some_iff] at ja;obtain⟨r1,gi,rfl⟩:=ja;refine wpIn_region_any dY.2 ?_
   have mN:rn ops 0=fun _=>False:=by
        funext t;apply propext;constructor
        ·rintro⟨i,o,h,_⟩;rw[h0] at h;cases h
        ·intro h;exact h.elim
   have hlen:(q.map (·.2)).length=m:=by rw[List.length_map];exact(Kr hq).1
   have aoM:ou ops 0=ops.size:=by
        unfold ou;have:((List.range ops.size).filter fun i=> !ar 0 i)=List.range ops.size:=List.filter_eq_self.2 fun i _=>by rw[h0];rfl
        rw[this,List.length_range]
   have zw:(List.range m).filter (ar 0)=[]:=List.filter_eq_nil_iff.2 fun i _=>by rw[h0];simp
   simp only[l5,Option.bind_eq_some_iff] at aj;obtain⟨ρ1,hρ1,hρ2⟩:=aj;have Lx:=qz;unfold zb at Lx;rw[Bool.and_eq_true] at Lx;refine ajy (w0:=w0) (S:=S.st ids) hC aX hΦ hY hn ax dY.1 anK hq qz vj (ρ':=ρ1) (fun listed a' w' aK hl gA eD=>?_) ops.size 0 _ ρ a _ aoM (fun j hj=>by rw[h0] at hj;cases hj) (fun j _ hj=>by rw[h0] at hj;cases hj) (by simp) (fun i=>?_) (.refl _ _) ?_ ?_
   ·refine auW hC aX hΦ hY ax dY.1 Lx.2 vj (ops.size-m) m listed (by omega) (Nat.le_refl _) aK hl (gA.size.trans hn) eD gi hρ2 (fun a2 w2 s2 g2=>hQ a2 w2 (gA.trans s2) (by
     have:=g2.snapF S.rs.length ids
     rw[show r1.1.snap S.rs.length ids=⟨rq (ei r1.1) r1.1 S.rs (ops.toList.filterMap (·.dst)),ids.map fun j=>fV r1.1 (r1.1.o j)⟩ from by
      unfold St.snap;rw[B0 fun t ht=>?_];rw[J4 gi t (fun i o hi ho e=>ht (List.mem_filterMap.2 ⟨o,by simpa using Array.mem_of_getElem? ho,e⟩))]
      have e1:eu ops (q.map (·.1)) (List.range m) (S.st ids).r t=(S.st ids).r t:=BX fun i hi e=>by
        rw[Option.bind_eq_some_iff] at e;obtain⟨o,ho,hd⟩:=e;exact ht (List.mem_filterMap.2 ⟨o,by simpa using Array.mem_of_getElem? ho,hd⟩)
      show ei _ (S.rs.getD t .none)=ei _ (eu ops (q.map (·.1)) (List.range m) (S.st ids).r t);rw[e1];show _=ei _ (bY (S.rs.getD t .none));cases S.rs.getD t .none<;>rfl] at this
     exact this))
   ·rw[h0];simp only[Array.getD_eq_getD_getElem?,Array.getElem?_replicate];split<;>rfl
   ·rw[mN,zw];exact hg.drew
   ·rw[←hlen,abn];exact hρ1
  simp only[UZ,Snap.hard_eq,Option.bind_eq_some_iff,Option.map_eq_some_iff] at hr;obtain⟨X,hX,T,hT,rfl⟩:=hr;refine wpIn_mono (Q:=fun e a w=>(∀c,e≠.panic c)∧Q e a w) ?_ fun e a w h=>h.2;refine wpIn_region_any dY.2 ?_
  have mN:tN ops 0=fun _=>False:=by
   funext t;apply propext;constructor
   ·rintro⟨i,o,h,_⟩;rw[h0] at h;cases h
   ·intro h;exact h.elim
  have hlen:=abD hX;rw[List.length_range] at hlen
  refine auA (w0:=w0) hC aX hΦ hY hn ax dY.1 (ρ':=ρ') vh (fun c a w h=>h.1 c rfl) ops.size hT (fun a' w' gA eD=>⟨fun c e=>(by cases e),hQ a' w' gA (by
   have:=eD.snapF T.rs.length ids
   rw[show(T.stO ids).snap T.rs.length ids=⟨T.rs.map (ei (T.stO ids)),ids.map fun j=>fV (T.stO ids) ((T.stO ids).o j)⟩ from by
        unfold St.snap;have:=B0 (g:=ei (T.stO ids)) (S:=T.stO ids) (rs:=T.rs) (ds:=[]) (fun t _=>rfl);rw[←this];rfl] at this
   exact this)⟩) 0 _ (List.mem_singleton.2 rfl) _ ρ a _ (by simp) (fun i=>?_) (.refl _ _) ?_ ?_
  ·rw[h0];simp only[Array.getD_eq_getD_getElem?,Array.getElem?_replicate];split<;>rfl
  ·rw[mN];have:=(hg.drew).snapO S.rs.length ids
   rw[show(S.st ids).snapO S.rs.length ids=⟨S.rs.map fun s=>ji (S.st ids) (bY s),ids.map fun j=>fV (S.st ids) ((S.st ids).o j)⟩ from by
        unfold St.snapO
        have:=B0 (g:=fun s=>ji (S.st ids) (bY s)) (S:=S.st ids) (rs:=S.rs) (ds:=[]) (fun t _=>by
         show ji _ (bY (S.rs.getD t .none))=ji _ (bY (bY (S.rs.getD t .none)));cases S.rs.getD t .none<;>rfl)
        have h2:(fun t=>ji (S.st ids) (bY ((S.st ids).r t)))=fun t=>ji (S.st ids) ((S.st ids).r t):=by
         funext t;show ji _ (bY (bY (S.rs.getD t .none)))=ji _ (bY (S.rs.getD t .none));cases S.rs.getD t .none<;>rfl
        rw[h2] at this;rw[←this];rfl] at this
   exact this
  ·rw[←hlen,abn];exact aj
end
end Cx
