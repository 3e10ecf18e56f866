/-
  Regions: in the order of the text, and in every order that their edges allow.
-/
import Derived.Test.YtefchokhgdmamaaGreatDoorHAG
import Derived.OrdersIn
set_option linter.unusedSimpArgs false
set_option linter.unusedVariables false
namespace Cx
open Go Go.RowKit
def kJ (S:St):Sh→Sh
 |.opt gs s=>.opt gs (fg S s)
 |s=>fg S s
def St.snapO (n:Nat)(ids:List Nat)(S:St):Snap:=⟨(List.range n).map fun t=>kJ S (S.r t),ids.map fun j=>gV S (S.o j)⟩
def Snap.stO (ids:List Nat)(s:Snap):St:=⟨fun t=>s.rs.getD t .none,fun j=>dM ids s.os j,fun _=>0⟩
theorem qq (S:St)(s:Sh):∀gs s',fg S s≠.opt gs s':=by
 intro gs s' e;cases s<;>simp only[fg] at e<;>first|cases e|(revert e;cases Nat.beq _ _<;>intro e<;>cases e)|(revert e;cases List.all _ _<;>intro e<;>cases e)
section
variable {C:Ctx} {S:St} {ρ:Env} {σ:Im} {own:Nat→Option Nat} {hv:Nat→Value} {w0:World} {σ0:Base} {A:Nat→Prop} {a:Act} {w:World} {n:Nat} {ids:List Nat} {Φ:aR}
theorem ajw {s:Sh}{v:Value}{d:D}(h:aC C S ρ σ hv s v d){T:St}(hT:T.ver=fun _=>0):aC C T ρ σ hv (kJ S s) v d:=by
 have hc:Compat S.norm hv T hv:=⟨fun j=>by rw[hT];exact nf _,fun _ _=>rfl⟩
 have key:∀s,aC C S ρ σ hv s v d→aC C T ρ σ hv (fg S s) v d:=fun s hs=>aC.mono' (.refl σ) hc (qq S s) (HS hs).1;cases s with
 |opt gs s=>exact⟨fun hh=>key s (h.1 hh),h.2⟩
 |_=>exact key _ h
theorem Good.snapO (h:Good C w0 σ0 S ρ A a w)(n:Nat)(ids:List Nat):Good C w0 σ0 ((S.snapO n ids).stO ids) ρ A a w:=by
 obtain⟨σ,own,hv,h⟩:=h;have h1:=h.norm;have hc:Compat S.norm hv ((S.snapO n ids).stO ids) hv:=⟨fun _=>aU _,fun _ _=>rfl⟩
 refine⟨σ,own,hv,h.defers,h.ok,h.le,h.old,h.newc,h.newm,h.below,h.bw,h.owns,fun t=>?_,fun j=>?_,fun t gs s e=>?_,?_⟩
 rotate_right
 ·obtain⟨t,fx,cx,f1,f5⟩:=h.frame;refine⟨t,fx,cx,f1,fun j hj=>f5 j ?_⟩;exact CW (fun j=>gV S (S.o j)) (fun ob=>ob=.tr→S.o j=.tr) (fun e=>by cases e) j WL ids hj
 ·show aC C _ ρ σ hv (((List.range n).map fun t=>kJ S (S.r t)).getD t .none) _ _;rw[aF,cA];by_cases ht:t<n
  ·rw[pM ht];exact ajw (h.regs t) rfl
  ·rw[qP (by simpa using ht)];trivial
 ·have ho:=(h1.objs j).mono (.refl σ) hc (w:=w) (w':=w) rfl rfl (fun k hk=>⟨hk,rfl⟩);exact CW (fun j=>gV S (S.o j)) (fun ob=>cn C _ ρ σ own hv w w0.heap.size j ob) trivial j ho ids
 ·change ((List.range n).map fun t=>kJ S (S.r t)).getD t .none=.opt gs s at e;rw[aF,cA] at e;by_cases ht:t<n
  ·rw[pM ht] at e;simp only[kg,mD] at e;cases hs:S.r t with
   |opt bG s'=>
    rw[hs] at e;simp only[kJ,Sh.opt.injEq] at e;obtain⟨rfl,rfl⟩:=e;exact⟨(h.opts t bG s' hs).1,qq S s'⟩
   |none=>rw[hs] at e;exact absurd e (qq S .none gs s)
   |yv=>rw[hs] at e;exact absurd e (qq S .yv gs s)
   |fclo f c=>rw[hs] at e;exact absurd e (qq S (.fclo f c) gs s)
   |agg l=>rw[hs] at e;exact absurd e (qq S (.agg l) gs s)
   |dat t=>rw[hs] at e;exact absurd e (qq S (.dat t) gs s)
   |obj t u=>rw[hs] at e;exact absurd e (qq S (.obj t u) gs s)
   |ptr t u v=>rw[hs] at e;exact absurd e (qq S (.ptr t u v) gs s)
   |eptr t u v x=>rw[hs] at e;exact absurd e (qq S (.eptr t u v x) gs s)
  ·rw[qP (by simpa using ht)] at e;cases e
theorem Good.snapF (h:Good C w0 σ0 S ρ A a w)(n:Nat)(ids:List Nat):Good C w0 σ0 ((S.snap n ids).st ids) ρ (fun _=>False) a w:=by
 obtain⟨σ,own,hv,h⟩:=h;exact⟨σ,own,hv,h.snap n ids⟩
theorem Good.drew (h:Good C w0 σ0 S ρ A a w):Good C w0 σ0 S ρ A a {w with drawn:=w.drawn+1}:=by
 obtain⟨σ,own,hv,h⟩:=h;refine⟨σ,own,hv,h.defers,⟨fun k o v e=>h.ok.c k o v e,fun k es e=>h.ok.m k es e⟩,h.le,h.old,h.newc,h.newm,h.below.drew,h.bw,h.owns,h.regs,fun j=>?_,h.opts,?_⟩
 rotate_right
 ·obtain⟨t,fx,cx,f1,f2⟩:=h.frame;exact⟨t,fx,cx,⟨σ0.keep _ _ _ _ _ f1.F (Below.drew (.refl _ _)) (fun _ _=>rfl),f1.own,f1.c,f1.m,f1.d⟩,f2⟩
 exact(h.objs j).mono (.refl σ) (.refl S hv) rfl rfl (fun k hk=>⟨hk,rfl⟩)
end
def uA (g:Sh→Sh)(S:St)(rs:List Sh)(ds:List Nat):List Sh:=(ds.foldl (fun l d=>l.set d (S.r d)) rs).map g
theorem TX (S:St):∀(ds:List Nat) (rs:List Sh),(ds.foldl (fun l d=>l.set d (S.r d)) rs).length=rs.length∧∀t,t<rs.length→(ds.foldl (fun l d=>l.set d (S.r d)) rs).getD t .none=if t∈ds then S.r t else rs.getD t .none
 |[],rs=>⟨rfl,fun t _=>by simp⟩
 |d::ds,rs=>by
  obtain⟨h1,h2⟩:=TX S ds (rs.set d (S.r d));simp only[JK] at h1 h2;refine⟨h1,fun t ht=>?_⟩;rw[JG,h2 t ht];simp only[df,aF,sC];by_cases hm:t∈ds
  ·simp[hm]
  ·by_cases e:d=t
   ·subst e;simp[hm,ht]
   ·have e':¬t=d:=fun h=>e h.symm;simp[hm,e,e']
theorem Ef {g:Sh→Sh}{S:St}{rs:List Sh}{ds:List Nat}(h:∀t,t∉ds→g (rs.getD t .none)=g (S.r t)):uA g S rs ds=(List.range rs.length).map fun t=>g (S.r t):=by
 obtain⟨h1,h2⟩:=TX S ds rs;unfold uA;apply JC;intro t;simp only[cA];by_cases ht:t<rs.length
 ·have:=h2 t ht;rw[aF,bo (by omega)] at this;rw[bo (by omega),pM ht];simp only[mD,kg] at this ⊢;rw[this];by_cases hm:t∈ds
  ·simp[hm]
  ·simp only[hm,if_false];rw[h t hm]
 ·rw[qP (by omega),qP (by simpa using ht)];rfl
def Sh.hd {α:Type}(s:Sh)(k:Sh→α):α:=
 match s with
 |.none=>k .none
 |.dat t=>k (.dat t)
 |.obj j v=>k (.obj j v)
 |.ptr j v o=>k (.ptr j v o)
 |.eptr j v z o=>k (.eptr j v z o)
 |.opt gs s=>k (.opt gs s)
 |.yv=>k .yv
 |.fclo f c=>k (.fclo f c)
 |.agg l=>k (.agg l)
theorem Sh.hd_eq {α:Type}(s:Sh)(k:Sh→α):s.hd k=k s:=by cases s<;>rfl
def yD {α:Type}:List Sh→(List Sh→α)→α
 |[],k=>k []
 |s::l,k=>s.hd fun s=>yD l fun l=>k (s::l)
theorem LI {α:Type}:∀(l:List Sh) (k:List Sh→α),yD l k=k l
 |[],_=>rfl
 |s::l,k=>by rw[yD,Sh.hd_eq,LI l]
def Ob.hd {α:Type}(s:Ob)(k:Ob→α):α:=
 match s with
 |.dead=>k .dead
 |.fz t=>k (.fz t)
 |.fbox t=>k (.fbox t)
 |.box true l=>yD l fun l=>k (.box true l)
 |.box false l=>yD l fun l=>k (.box false l)
 |.row T e=>k (.row T e)
 |.mp a b=>k (.mp a b)
 |.it a b=>k (.it a b)
 |.tr=>k .tr
theorem Ob.hd_eq {α:Type}(s:Ob)(k:Ob→α):s.hd k=k s:=by
 cases s with
 |box ag l=>cases ag<;>simp only[Ob.hd,LI]
 |_=>rfl
def GB {α:Type}:List Ob→(List Ob→α)→α
 |[],k=>k []
 |s::l,k=>s.hd fun s=>GB l fun l=>k (s::l)
theorem Uq {α:Type}:∀(l:List Ob) (k:List Ob→α),GB l k=k l
 |[],_=>rfl
 |s::l,k=>by rw[GB,Ob.hd_eq,Uq l]
def Snap.hard {α:Type}(s:Snap)(k:Snap→α):α:=yD s.rs fun a=>GB s.os fun b=>k ⟨a,b⟩
theorem Snap.hard_eq {α:Type}(s:Snap)(k:Snap→α):s.hard k=k s:=by rw[Snap.hard,LI,Uq]
def GC {α β:Type}:List β→(List β→α)→α
 |[],k=>k []
 |s::l,k=>GC l fun l=>k (s::l)
theorem Us {α β:Type}:∀(l:List β) (k:List β→α),GC l k=k l
 |[],_=>rfl
 |s::l,k=>by rw[GC,Us l]
def BO {α β:Type}:List (List β)→(List (List β)→α)→α
 |[],k=>k []
 |s::l,k=>GC s fun s=>BO l fun l=>k (s::l)
theorem Ur {α β:Type}:∀(l:List (List β)) (k:List (List β)→α),BO l k=k l
 |[],_=>rfl
 |s::l,k=>by rw[BO,Us,Ur l]
def ay (P:Program){α:Type}(s:Sem α):Prop:=(∃a,∀w,s.run P w=.ok a w)∨∀w,∃h w',s.run P w=.halt h w'
section
variable {P:Program}
theorem ay.pure {α:Type}(a:α):ay P (Sem.pure a):=.inl ⟨a,fun w=>rfl⟩
theorem ay.pure' {α:Type}(a:α):ay P (Pure.pure a:Sem α):=.inl ⟨a,fun w=>rfl⟩
theorem ay.halt {α:Type}(h:Halt):ay P (Sem.halt h:Sem α):=.inr fun w=>⟨h,w,rfl⟩
theorem ay.bind' {α β:Type}{s:Sem α}{f:α→Sem β}(h:ay P s)(hf:∀a,(∀w,s.run P w=.ok a w)→ay P (f a)):ay P (s>>=f):=by
 rcases h with⟨a,ha⟩|hd
 ·rcases hf a ha with⟨b,hb⟩|hd
  ·exact .inl ⟨b,fun w=>by rw[Sem.run_bind,ha w];exact hb w⟩
  ·refine .inr fun w=>?_;obtain⟨x,w',e⟩:=hd w;exact⟨x,w',by rw[Sem.run_bind,ha w];exact e⟩
 ·refine .inr fun w=>?_;obtain⟨x,w',e⟩:=hd w;exact⟨x,w',by rw[Sem.run_bind,e];rfl⟩
theorem ay.bind {α β:Type}{s:Sem α}{f:α→Sem β}(h:ay P s)(hf:∀a,ay P (f a)):ay P (s>>=f):=h.bind' fun a _=>hf a
def cg {α:Type}(s:Sem α):Prop:=∀P w,∃h w',s.run P w=.halt h w'
theorem cg.noW {α:Type}{s:Sem α}(h:cg s):ay P s:=.inr (h P)
theorem cg.halt {α:Type}(h:Halt):cg (Sem.halt h:Sem α):=fun P w=>⟨h,w,rfl⟩
theorem cg.of_bind {α β:Type}{s:Sem α}{f:α→Sem β}(hf:∀a,cg (f a)):cg (s>>=f):=by
 intro P w;rw[Sem.run_bind];cases e:s.run P w with
 |ok a w'=>exact hf a P w'
 |halt h w'=>exact⟨h,w',rfl⟩
theorem ay.asBool (v:Value):ay P (Go.asBool v):=by
 cases v<;>first|exact .pure _|exact .halt _
theorem ay.asIntOf (v:Value):ay P (Go.asIntOf v):=by
 unfold Go.asIntOf;split<;>first|exact .pure _|exact .halt _
theorem ay.sureAddr (v:Value):ay P (Instr.sureAddr v):=by
 unfold Instr.sureAddr;split<;>first|exact .pure _|exact .halt _
theorem ay.prog:ay P Go.program:=.inl ⟨P,fun w=>rfl⟩
theorem ay.underlying (t:TypeId):ay P (Go.underlying t):=by
 unfold Go.underlying;refine .bind .prog fun p=>?_;split<;>first|exact .pure _|exact .halt _
theorem ay.sizeOf (t:TypeId):ay P (Go.sizeOf t):=by
 unfold Go.sizeOf Go.typeInfo;refine .bind (.bind .prog fun p=>?_) fun _=>.pure _;split<;>first|exact .pure _|exact .halt _
theorem cg.runtimePanic {α:Type}(e:RuntimeError):cg (Go.runtimePanic e:Sem α):=by
 unfold Go.runtimePanic;refine .of_bind fun p=>?_;cases e<;>first|exact .halt _|exact .of_bind fun _=>.halt _|exact .of_bind fun _=>.of_bind fun _=>.halt _
theorem cg.boundsPanic {α:Type}(k:IntKind)(x y:Int)(c:BoundsCode):cg (Go.boundsPanic k x y c:Sem α):=by
 unfold Go.boundsPanic;dsimp only;split<;>exact .of_bind fun _=>.runtimePanic _
theorem ay.indexAt (t:TypeId)(x i:Value):ay P (Instr.indexAt t x i):=by
 unfold Instr.indexAt
 repeat' (first|(first|exact ay.pure _|exact ay.pure' _|exact ay.halt _|exact cg.noW (cg.boundsPanic _ _ _ _)|exact cg.noW (cg.runtimePanic _)|exact ay.prog|exact ay.underlying _|exact ay.sizeOf _|exact ay.asIntOf _|exact ay.sureAddr _|exact ay.asBool _)|(refine ay.bind ?_ fun _=>?_)|dsimp only|split)
theorem ay.sliceBound (x:Value)(y:Nat)(c:BoundsCode):ay P (Instr.sliceBound x y c):=by
 unfold Instr.sliceBound
 repeat' (first|(first|exact ay.pure _|exact ay.pure' _|exact ay.halt _|exact cg.noW (cg.boundsPanic _ _ _ _)|exact cg.noW (cg.runtimePanic _)|exact ay.prog|exact ay.underlying _|exact ay.sizeOf _|exact ay.asIntOf _|exact ay.sureAddr _|exact ay.asBool _)|(refine ay.bind ?_ fun _=>?_)|dsimp only|split)
theorem ay.sliceBounds (b:Bool)(n m:Nat)(lo hi mx:Option Value):ay P (Instr.sliceBounds b n m lo hi mx):=by
 unfold Instr.sliceBounds
 repeat' (first|exact ay.sliceBound _ _ _|(first|exact ay.pure _|exact ay.pure' _|exact ay.halt _|exact cg.noW (cg.boundsPanic _ _ _ _)|exact cg.noW (cg.runtimePanic _)|exact ay.prog|exact ay.underlying _|exact ay.sizeOf _|exact ay.asIntOf _|exact ay.sureAddr _|exact ay.asBool _)|(refine ay.bind ?_ fun _=>?_)|dsimp only|split)
theorem ay.asAddr (v:Value):ay P (Go.asAddr v):=by
 unfold Go.asAddr
 repeat' (first|(first|exact ay.pure _|exact ay.pure' _|exact ay.halt _|exact cg.noW (cg.boundsPanic _ _ _ _)|exact cg.noW (cg.runtimePanic _)|exact ay.prog|exact ay.underlying _|exact ay.sizeOf _|exact ay.asIntOf _|exact ay.sureAddr _|exact ay.asBool _)|(refine ay.bind ?_ fun _=>?_)|dsimp only|split)
theorem ay.slice (t:TypeId)(x:Value)(lo hi mx:Option Value):ay P (Instr.slice t x lo hi mx):=by
 unfold Instr.slice
 repeat' (first|exact ay.sliceBounds _ _ _ _ _ _|exact ay.asAddr _|(first|exact ay.pure _|exact ay.pure' _|exact ay.halt _|exact cg.noW (cg.boundsPanic _ _ _ _)|exact cg.noW (cg.runtimePanic _)|exact ay.prog|exact ay.underlying _|exact ay.sizeOf _|exact ay.asIntOf _|exact ay.sureAddr _|exact ay.asBool _)|(refine ay.bind ?_ fun _=>?_)|dsimp only|split)
theorem ay.sliceAt (t:TypeId)(x:Value)(lo hi mx:Option Value):ay P (Instr.sliceAt t x lo hi mx):=by
 unfold Instr.sliceAt
 repeat' (first|exact ay.sliceBounds _ _ _ _ _ _|exact ay.slice _ _ _ _ _|(first|exact ay.pure _|exact ay.pure' _|exact ay.halt _|exact cg.noW (cg.boundsPanic _ _ _ _)|exact cg.noW (cg.runtimePanic _)|exact ay.prog|exact ay.underlying _|exact ay.sizeOf _|exact ay.asIntOf _|exact ay.sureAddr _|exact ay.asBool _)|(refine ay.bind ?_ fun _=>?_)|dsimp only|split)
def PS (P:Program)(s:TypeId)(i:Nat):Bool:=
 match P.underlying s with
 |some (.struct fs)=>(match fs[i]? with
  |some f=>(match P.info? f.type with|some d=> !Nat.beq d.size 0|none=>false)
  |none=>false)
 |_=>false
theorem ay.fieldAt {s:TypeId}{i:Nat}(h:PS P s i=true)(a:Value):ay P (Instr.fieldAt s a i):=by
 unfold Instr.fieldAt;refine .bind' (.underlying _) fun d hd=>?_;have hu:P.underlying s=some d:=by
  have:=hd default;unfold Go.underlying at this;rw[Sem.run_bind] at this;change Result.andThen (.ok P default) _=_ at this;simp only[Result.andThen_ok] at this;cases hp:P.underlying s with
  |none=>rw[hp] at this;cases this
  |some d'=>
   rw[hp] at this;change Result.ok d' default=_ at this;cases this;rfl
 unfold PS at h;rw[hu] at h;cases d<;>dsimp only at h ⊢<;>try (first|exact ay.pure _|exact ay.pure' _|exact ay.halt _|exact cg.noW (cg.boundsPanic _ _ _ _)|exact cg.noW (cg.runtimePanic _)|exact ay.prog|exact ay.underlying _|exact ay.sizeOf _|exact ay.asIntOf _|exact ay.sureAddr _|exact ay.asBool _)
 rename_i fs;cases hf:fs[i]? with
 |none=>dsimp only;(first|exact ay.pure _|exact ay.pure' _|exact ay.halt _|exact cg.noW (cg.boundsPanic _ _ _ _)|exact cg.noW (cg.runtimePanic _)|exact ay.prog|exact ay.underlying _|exact ay.sizeOf _|exact ay.asIntOf _|exact ay.sureAddr _|exact ay.asBool _)
 |some f=>
  rw[hf] at h;dsimp only at h ⊢;refine .bind (.sureAddr _) fun a=>.bind ?_ fun _=>.pure _;unfold Go.fieldPlace;refine .bind' (.sizeOf _) fun n hn=>?_;have hz:n≠0:=by
   intro e;have:=hn default;unfold Go.sizeOf Go.typeInfo at this;cases hi:P.info? f.type with
   |none=>rw[hi] at h;cases h
   |some inf=>
    rw[hi] at h;rw[Sem.run_bind,Sem.run_bind] at this;change Result.andThen (Result.andThen (.ok P default) _) _=_ at this;simp only[Result.andThen_ok,hi] at this;change Result.ok inf.size default=_ at this;cases this;dsimp only at h;rw[e] at h;cases h
  rw[if_neg hz]
  (first|exact ay.pure _|exact ay.pure' _|exact ay.halt _|exact cg.noW (cg.boundsPanic _ _ _ _)|exact cg.noW (cg.runtimePanic _)|exact ay.prog|exact ay.underlying _|exact ay.sizeOf _|exact ay.asIntOf _|exact ay.sureAddr _|exact ay.asBool _)
def Db (P:Program):Op→Bool
 |.move _=>true
 |.assign _=>true
 |.pick ..=>true
 |.fieldAddr s _ i=>PS P s i
 |.indexAddr ..=>true
 |.slice ..=>true
 |_=>false
theorem akH {o:Oper}(hp:Db P o.op=true)(ρ:Operand→Value):(∃v,∀w,(execOp ρ o).run P w=.ok (.value v) w)∨∀w,∃h w',(execOp ρ o).run P w=.halt h w':=by
 have key:∀s:Sem Value,ay P s→(∃v,∀w,(do Pure.pure (Next.value (←s)):Sem Next).run P w=.ok (.value v) w)∨∀w,∃h w',(do Pure.pure (Next.value (←s)):Sem Next).run P w=.halt h w':=by
  intro s hs;rcases hs with⟨a,ha⟩|hd
  ·exact .inl ⟨a,fun w=>by rw[Sem.run_bind,ha w];rfl⟩
  ·refine .inr fun w=>?_;obtain⟨x,w',e⟩:=hd w;exact⟨x,w',by rw[Sem.run_bind,e];rfl⟩
 obtain⟨dst,op,type,pos,after,guard⟩:=o;cases op<;>first|(cases hp;done)|skip
 case move x=>exact .inl ⟨_,fun w=>rfl⟩
 case assign x=>exact .inl ⟨_,fun w=>rfl⟩
 case pick c a b=>
  have:=key (do Pure.pure (if←Go.asBool (ρ c) then ρ a else ρ b)) (.bind (.asBool _) fun _=>.pure _);simp only[execOp];rcases ay.asBool (P:=P) (ρ c) with⟨t,ht⟩|hd
  ·exact .inl ⟨_,fun w=>by rw[Sem.run_bind,ht w];rfl⟩
  ·refine .inr fun w=>?_;obtain⟨x,w',e⟩:=hd w;exact⟨x,w',by rw[Sem.run_bind,e];rfl⟩
 case fieldAddr s x i=>exact key _ (.fieldAt hp _)
 case indexAddr t x i=>exact key _ (.indexAt _ _ _)
 case slice t x lo hi mx=>exact key _ (.sliceAt _ _ _ _ _)
theorem akI {rd:Option Nat}{ops:Array Oper}{i:Nat}{o:Oper}{a:Act}{w:World}{K:Act→World→Prop}(hi:ops[i]?=some o)(hp:Db P o.op=true)
 (h:wpOpIn (FR rd) 0 P ops (fun _ _ _=>False) i K a w):∃v,YieldsFenced P ops o v a∧K (a.put o.dst v) w:=by
 have be:∀c,o.op≠.defer c:=fun c e=>by rw[e] at hp;cases hp
 have BJ:∀w,o.about P w a.eval=none:=fun w=>by
  unfold Oper.about;cases ho:o.op<;>first|rfl|(rw[ho] at hp;cases hp)
 unfold wpOpIn at h;rw[hi] at h;dsimp only at h;cases hw:Region.wanted o (yielded ops a.tmps) with
 |false=>
  rw[hw] at h;exact⟨undef,⟨.inr ⟨hw,rfl⟩,BJ⟩,h.2⟩
 |true=>
  rw[hw,if_pos rfl] at h;have h2:=h.2;rw[Oper.semAt_eq _ _ _ be] at h2;rcases akH hp a.eval with⟨v,hv⟩|hd
  ·rw[hv w] at h2;exact⟨v,⟨.inl ⟨hw,hv⟩,BJ⟩,h2⟩
  ·obtain⟨x,w',e⟩:=hd w;rw[e] at h2;cases x<;>exact h2.elim
section
variable {F:Fence} {n:Nat} {ops:Array Oper} {Q:Exit→Act→World→Prop} {md:Region.Mode}
theorem YF.wpOpIn {i:Nat}{o:Oper}{v:Value}{a:Act}(be:nM o.op=true)(hi:ops[i]?=some o)(hy:YieldsFenced P ops o v a)
 {K:Act→World→Prop} {w:World} (h:K (a.put o.dst v) w):wpOpIn F n P ops Q i K a w:=by
 have jF:∀c,o.op≠.defer c:=fun c e=>by rw[e] at be;cases be
 unfold Go.wpOpIn;simp only[hi];have BJ:∀f,o.about P w a.eval=some f→F.fn f:=fun f hf=>by rw[hy.2 w] at hf;cases hf
 rcases hy.1 with⟨hw,hv⟩|⟨hw,rfl⟩
 ·simp only[hw,if_true,Oper.wpIn,Oper.semAt_eq _ _ _ jF,hv w,Oper.uponIn];exact⟨BJ,h⟩
 ·simp only[hw,uQ,if_false];exact⟨BJ,h⟩
theorem aos {j:Nat}{oi oj:Oper}{v:Value}(be:nM oj.op=true)(hj:ops[j]?=some oj)(LH:oi.apart ops oj=true)
 (hsi:∀cs b,oi.op≠.select cs b) (hsj:∀cs b,oj.op≠.select cs b)
 (hQ:∀c a w,Q (.panic c) (a.put oi.dst v) w→Q (.panic c) a w) {K:Act→World→Prop} {a:Act} {w:World}
 (hy:YieldsFenced P ops oi v a) (h:wpOpIn F n P ops Q j K (a.put oi.dst v) w):
 wpOpIn F n P ops Q j (fun a' w'=>YieldsFenced P ops oi v a'∧K (a'.put oi.dst v) w') a w:=by
 have jF:∀c,oj.op≠.defer c:=fun c e=>by rw[e] at be;cases be
 obtain⟨h1,h2,h3⟩:=Oper.apart_spec LH;have keep:∀(a:Act),YieldsFenced P ops oi v a→∀u,YieldsFenced P ops oi v (a.put oj.dst u):=fun a hy u=>
  hy.of_same (execOp_put oi hsi a oj.dst u h3) (wanted_put oi a oj.dst u h3) (fun w=>about_put oi w a oj.dst u h3)
 have ahZ:∀d,YieldsFenced P ops oi v {a with defers:=d::a.defers}:=fun d=>hy.of_same rfl rfl (fun _=>rfl);unfold Go.wpOpIn at*;simp only[hj] at*;rw[wanted_put oj a oi.dst v h1,about_put oj w a oi.dst v h1] at h;split
 ·rename_i hw;simp only[hw,if_true] at h;unfold Oper.wpIn at*;rw[about_put oj w a oi.dst v h1] at h;refine⟨h.1,?_⟩;have h:=h.2;rw[Oper.semAt_eq _ _ _ jF,execOp_put oj hsj a oi.dst v h1] at h;rw[Oper.semAt_eq _ _ _ jF];generalize (execOp a.eval oj).run P w=r at*;cases r with
  |ok x w'=>
   cases x<;>simp only[Oper.uponIn] at h ⊢
   case value u=>exact⟨keep a hy u,by rw[←Act.put_comm a v u h2];exact h⟩
   case skip=>exact⟨keep a hy _,by rw[←Act.put_comm a v undef h2];exact h⟩
   case defer d=>
        refine⟨keep _ (ahZ d) _,?_⟩;rw[←Act.put_comm _ v undef h2,←Act.put_defers];exact h
   case enter f args=>
        refine⟨h.1,CallsIn.mono h.2 fun e j9 he=>?_⟩;cases e with
        |returned u=>exact⟨keep a hy u,by rw[←Act.put_comm a v u h2];exact he⟩
        |panicked c=>exact hQ _ _ _ he
        |outgrown=>exact he
   case row row args=>exact⟨h.1,RowsIn.mono h.2 fun u j9 he=>⟨keep a hy u,by rw[←Act.put_comm a v u h2];exact he⟩⟩
   case round l f tmps assign body=>
        refine⟨h.1,RoundIn.mono h.2 fun e j9 he=>?_⟩;cases e with
        |returned u=>exact⟨keep a hy u,by rw[←Act.put_comm a v u h2];exact he⟩
        |panicked c=>exact hQ _ _ _ he
        |outgrown=>exact he
  |halt x w'=>
   cases x<;>simp only[Oper.uponIn] at h ⊢
   case panic u=>exact hQ _ _ _ h
 ·rename_i hw;simp only[hw] at h;exact⟨h.1,keep a hy _,by rw[←Act.put_comm a v undef h2];exact h.2⟩
theorem aor {i:Nat}{oi:Oper}{v:Value}(be:∀(j:Nat) (o:Oper),ops[j]?=some o→nM o.op=true)(hi:ops[i]?=some oi)(yX:∀(j:Nat) (o:Oper) cs b,ops[j]?=some o→o.op≠.select cs b)
 (hQ:∀c a w,Q (.panic c) (a.put oi.dst v) w→Q (.panic c) a w):
 ∀(fuel:Nat) (listed:Array Bool) (a:Act) (w:World),
  (∀j oj,ops[j]?=some oj→j≠i→listed.getD j true=false→(∀e∈oj.after,Region.binds md e=true→e.on≠i)→oi.apart ops oj=true)→
  i∈Region.ready md ops listed→YieldsFenced P ops oi v a→
  wpAnyIn F n P md ops Q fuel (listed.setIfInBounds i true) (a.put oi.dst v) w→wpAnyIn F n P md ops Q (fuel+1) listed a w:=by
 intro fuel
 induction fuel with
 |zero=>
  intro listed a w _ hr hy H;refine⟨fun h=>(by rw[h] at hr;cases hr),fun j hj=>?_⟩;by_cases eO:j=i
  ·subst eO;exact YF.wpOpIn (be _ _ hi) hi hy H
  ·have:=ready_mono hj eO;rw[H.1] at this;cases this
 |succ fuel ih=>
  intro listed a w mK hr hy H;refine⟨fun h=>(by rw[h] at hr;cases hr),fun j hj=>?_⟩;by_cases eO:j=i
  ·subst eO;exact YF.wpOpIn (be _ _ hi) hi hy H
  ·have h1:=H.2 j (ready_mono hj eO);obtain⟨UU,oj,qj,aD⟩:=mem_ready.1 hj
   have Mo:∀e∈oj.after,Region.binds md e=true→e.on≠i:=fun e he hb heq=>by
        have h1:=aD e he hb;have h0:=(mem_ready.1 hr).1;rw[heq] at h1;rcases EJ i listed.size with h'|h'
        ·simp[h'] at h0 h1;rw[h0] at h1;cases h1
        ·simp[Array.getElem?_eq_none h'] at h1
   have h2:=aos (be _ _ qj) qj (mK j oj qj eO UU Mo) (fun cs b=>yX i oi cs b hi) (fun cs b=>yX j oj cs b qj) hQ hy h1;have afT:∀k ok,ops[k]?=some ok→k≠i→(listed.setIfInBounds j true).getD k true=false→
    (∀e∈ok.after,Region.binds md e=true→e.on≠i)→oi.apart ops ok=true:=fun k ok hk hki mP eI=>by
        refine mK k ok hk hki ?_ eI;by_cases GW:j=k
        ·subst GW;exact UU
        ·rw[getD_set_ne true GW] at mP;exact mP
   refine wpOpIn_mono (fun a' w' h3=>ih (listed.setIfInBounds j true) a' w' afT (ready_mono hr (qU eO)) h3.1 ?_) h2;rw[Array.setIfInBounds_comm _ _ eO];exact h3.2
end
end
def qY (P:Program)(ops:Array Oper):List (Option (List Nat)):=(List.range ops.size).map fun i=>match ops[i]? with
 |some oi=>bif Db P oi.op then some ((List.range ops.size).filter fun j=> !(Nat.beq j i||(match ops[j]? with|some oj=>(oj.after.toList.any fun e=>Region.binds .any e&&Nat.beq e.on i)||oi.apart ops oj|none=>true))) else none
 |none=>none
def Ae (bad:List (Option (List Nat)))(E:Nat):List Nat→Option Nat
 |[]=>none
 |i::l=>match bad.getD i none with
  |some b=>bif b.all (aq E) then some i else Ae bad E l
  |none=>Ae bad E l
def ND (ops:Array Oper):Bool:=ops.toList.all fun o=>match o.op with|.select ..=>false|_=>true
theorem Jf {bad:List (Option (List Nat))}{E:Nat}:∀{l:List Nat} {i:Nat},Ae bad E l=some i→i∈l∧∃b,bad.getD i none=some b∧b.all (aq E)=true
 |[],_,h=>by cases h
 |i::l,j,h=>by
  unfold Ae at h;split at h
  ·rename_i b hb;cases hc:b.all (aq E) with
   |true=>
    rw[hc] at h;cases h;exact⟨dG ..,b,hb,hc⟩
   |false=>
    rw[hc] at h;obtain⟨h1,h2⟩:=Jf h;exact⟨dz _ h1,h2⟩
  ·obtain⟨h1,h2⟩:=Jf h;exact⟨dz _ h1,h2⟩
theorem abr {P:Program}{ops:Array Oper}{i:Nat}{b:List Nat}(h:(qY P ops).getD i none=some b):∃oi,ops[i]?=some oi∧Db P oi.op=true∧
 ∀j oj,ops[j]?=some oj→j≠i→j∉b→(∀e∈oj.after,Region.binds .any e=true→e.on≠i)→oi.apart ops oj=true:=by
 unfold qY at h;rw[aF,cA] at h;by_cases hi:i<ops.size
 ·rw[pM hi] at h;simp only[kg,mD] at h;rw[dX hi] at h;dsimp only at h;cases hp:Db P ops[i].op<;>rw[hp] at h<;>simp only[cond_true,cond_false] at h
  ·cases h
  injection h with h
  refine⟨ops[i],dX hi,hp,fun j oj hj eO GV eI=>?_⟩;have ae:j<ops.size:=(dy.1 hj).1;rw[←h] at GV;have h2:¬(!(Nat.beq j i||(match ops[j]? with|some oj=>(oj.after.toList.any fun e=>Region.binds .any e&&Nat.beq e.on i)||ops[i].apart ops oj|none=>true)))=true:=fun hc=>GV (ed.2 ⟨bZ.2 ae,hc⟩);rw[hj,eX eO] at h2;simp only[pJ,hH,Bool.not_eq_false,gw] at h2;rcases h2 with h2|h2
  ·obtain⟨e,he,hb⟩:=uT.1 h2;rw[aj] at hb;exact absurd (cM hb.2) (eI e (by simpa using he) hb.1)
  ·exact h2
 ·rw[qP (by simpa using hi)] at h;cases h
def CQ (E:Nat)(T:Snap):List (Nat×Snap)→Option (List (Nat×Snap))
 |[]=>some [(E,T)]
 |x::l=>bif Nat.beq x.1 E then(bif x.2.beq T then some (x::l) else none) else(CQ E T l).map (x::·)
def lD (ops:Array Oper)(E:Nat):List Nat:=
 (List.range ops.size).filter fun i=> !aq E i&&(match ops[i]? with|some o=>o.after.toList.all fun e=> !Region.binds .any e||aq E e.on|none=>false)
def N9 (C:Ctx)(ops:Array Oper)(n:Nat)(ids:List Nat)(X:List (List PI))(nc:List (List Nat))(E:Nat)(T:Snap)(i:Nat):Option (Nat×Snap):=
 match ops[i]? with
 |some o=>(oq C (T.stO ids) ops o).bind fun r=>
  bif PI.beqs r.2 (X.getD i [])&&(nc.getD i []).all (aq E) then some (Nat.lor E (dO i),⟨uA (kJ r.1) r.1 T.rs o.dst.toList,ids.map fun j=>gV r.1 (r.1.o j)⟩) else none
 |none=>none
def Eg (one:Nat→Option (Nat×Snap)):List Nat→List (Nat×Snap)→Option (List (Nat×Snap))
 |[],acc=>some acc
 |i::l,acc=>(one i).bind fun x=>x.2.hard fun T=>(CQ x.1 T acc).bind fun acc=>Eg one l acc
def oo (ops:Array Oper)(bad:List (Option (List Nat)))(E:Nat):List Nat:=
 match Ae bad E (lD ops E) with
 |some i=>[i]
 |none=>lD ops E
def CV (ops:Array Oper)(bad:List (Option (List Nat)))(one:Nat→Snap→Nat→Option (Nat×Snap)):List (Nat×Snap)→List (Nat×Snap)→Option (List (Nat×Snap))
 |[],acc=>some acc
 |x::l,acc=>
  match oo ops bad x.1 with
  |[]=>none
  |rs=>(Eg (one x.1 x.2) rs acc).bind fun acc=>CV ops bad one l acc
def Ea (ops:Array Oper)(bad:List (Option (List Nat)))(one:Nat→Snap→Nat→Option (Nat×Snap)):Nat→List (Nat×Snap)→Option Snap
 |0,L=>
  match L with
  |[x]=>bif (List.range ops.size).all (aq x.1) then some x.2 else none
  |_=>none
 |k+1,L=>(CV ops bad one L []).bind fun L=>Ea ops bad one k L
theorem VJ {E:Nat}{T:Snap}:∀{l l':List (Nat×Snap)},CQ E T l=some l'→(E,T)∈l'∧∀x,x∈l→x∈l'
 |[],l',h=>by simp only[CQ,aO] at h;subst h;simp
 |x::l,l',h=>by
  simp only[CQ] at h;cases hb:Nat.beq x.1 E<;>simp only[hb,cond_true,cond_false] at h
  ·simp only[av] at h;obtain⟨l2,h2,rfl⟩:=h;obtain⟨h3,h4⟩:=VJ h2;exact⟨dz _ h3,fun y hy=>(df.1 hy).elim (fun e=>e▸dG ..) fun hm=>dz _ (h4 y hm)⟩
  ·cases hs:x.2.beq T<;>simp only[hs,cond_true,cond_false] at h
   ·cases h
   ·cases h;refine⟨?_,fun y hy=>hy⟩;have e1:=cM hb;have e2:=Snap.beq_eq _ _ hs;subst e1;subst e2;simp
theorem ZU {one:Nat→Option (Nat×Snap)}:∀{rs:List Nat} {acc AD:List (Nat×Snap)},Eg one rs acc=some AD→(∀x,x∈acc→x∈AD)∧∀i,i∈rs→∃x,one i=some x∧x∈AD
 |[],acc,AD,h=>by simp only[Eg,aO] at h;subst h;simp
 |i::rs,acc,AD,h=>by
  simp only[Eg,Snap.hard_eq,ao] at h;obtain⟨x,hx,aaQ,h1,h2⟩:=h;obtain⟨h3,h4⟩:=VJ h1;obtain⟨h5,h6⟩:=ZU h2;refine⟨fun y hy=>h5 y (h4 y hy),fun j hj=>?_⟩;rcases df.1 hj with e|hm
  ·subst e;exact⟨x,hx,h5 _ h3⟩
  ·exact h6 j hm
theorem V1 {ops:Array Oper}{bad:List (Option (List Nat))}{one:Nat→Snap→Nat→Option (Nat×Snap)}:∀{L acc L':List (Nat×Snap)},CV ops bad one L acc=some L'→
 (∀x,x∈acc→x∈L')∧∀x,x∈L→oo ops bad x.1≠[]∧∀i,i∈oo ops bad x.1→∃y,one x.1 x.2 i=some y∧y∈L'
 |[],acc,L',h=>by simp only[CV,aO] at h;subst h;simp
 |x::L,acc,L',h=>by
  simp only[CV] at h;split at h
  ·cases h
  ·rename_i az;simp only[ao] at h;obtain⟨aaQ,h1,h2⟩:=h;obtain⟨h3,h4⟩:=ZU h1;obtain⟨h5,h6⟩:=V1 h2;refine⟨fun y hy=>h5 y (h3 y hy),fun y hy=>?_⟩;rcases df.1 hy with e|hm
   ·subst e;refine⟨fun e=>az e,fun i hi=>?_⟩;obtain⟨z,hz,hm⟩:=h4 i hi;exact⟨z,hz,h5 z hm⟩
   ·exact h6 y hm
def eL (X:List (List PI))(l:List Nat)(E:Nat):List PI:=l.flatMap fun i=>bif aq E i then[] else X.getD i []
theorem Pz {X:List (List PI)}{E E':Nat}:∀(l:List Nat),(∀i,i∈l→aq E i=aq E' i)→eL X l E=eL X l E'
 |[],_=>rfl
 |i::l,h=>by
  have ih:=Pz (X:=X) l fun j hj=>h j (dz _ hj);unfold eL at ih ⊢;simp only[qO];rw[ih,h i (dG ..)]
theorem Foot.comm_each {a b:List PI}(h:(gO a).comm (gO b)=true):∀p q,p∈a→q∈b→Comm p q:=by
 simp only[Foot.comm,aj] at h;obtain⟨h1,h2,h3,h4,h5,h6⟩:=h;intro p q hp hq;obtain⟨p1,p2,p3,p4⟩:=TY hp;obtain⟨q1,q2,q3,q4⟩:=TY hq;exact⟨fun t x y=>Ni h1 (p1 t x) (q1 t y),fun t x y=>Ni h2 (p1 t x) (q3 t y),fun t x y=>Ni h3 (q1 t x) (p3 t y),fun t x y=>J3 h4 (p2 t x) (q2 t y),fun t x y=>J3 h5 (p2 t x) (q4 t y),fun t x y=>J3 h6 (q2 t x) (p4 t y)⟩
def oZ (X:List (List PI))(N:Nat):List (List Nat):=
 (List.range N).map fun i=>(List.range i).filter fun j=> !(gO (X.getD j [])).comm (gO (X.getD i []))
theorem iP (E i j:Nat):aq (Nat.lor E (dO i)) j=(aq E j||Nat.beq i j):=by
 rw[fo]
 congr 1
 rw[q6];show(1<<<i).testBit j=_;rw[Nat.testBit_shiftLeft];by_cases h:i=j
 ·subst h;simp
 ·have h1:Nat.beq i j=false:=eX h;rw[h1];by_cases h2:i≤j
  ·have:j-i≠0:=by omega
   cases hk:j-i with
   |zero=>omega
   |succ k=>
    have:(1:Nat).testBit (k+1)=false:=by simp[Nat.testBit_succ]
    simp[this]
  ·simp[h2]
theorem Zm {X:List (List PI)}{N E i:Nat}(hi:i<N)(hb:aq E i=false)(cX:((oZ X N).getD i []).all (aq E)=true)(Φ:aR)(ρ:Env):
 PI.runs Φ (eL X (List.range N) E) ρ=(PI.runs Φ (X.getD i []) ρ).bind (PI.runs Φ (eL X (List.range N) (Nat.lor E (dO i)))):=by
 obtain⟨l1,l2,hl⟩:=R2 (bZ.2 hi);have hp:=List.pairwise_lt_range (n:=N);rw[hl,Sf] at hp;obtain⟨_,fw,hp3⟩:=hp;rw[Sg] at fw;have Wj:∀j,j∈l1→j<i:=fun j hj=>hp3 j hj i (dG ..);have lt2:∀j,j∈l2→i<j:=fun j hj=>fw.1 j hj;have e0:∀E,eL X (l1++i::l2) E=eL X l1 E++((bif aq E i then[] else X.getD i [])++eL X l2 E):=fun E=>by simp[eL]
 have e1:eL X l1 (Nat.lor E (dO i))=eL X l1 E:=Pz l1 fun j hj=>by
  rw[iP,eX (by have:=Wj j hj;omega),sw]
 have e2:eL X l2 (Nat.lor E (dO i))=eL X l2 E:=Pz l2 fun j hj=>by
  rw[iP,eX (by have:=lt2 j hj;omega),sw]
 have e3:aq (Nat.lor E (dO i)) i=true:=by rw[iP,gL,m8]
 rw[hl,e0,e0,e1,e2,e3,hb];simp only[cond_true,cond_false,qT]
 have afz:PI.runs Φ (eL X l1 E++X.getD i [])=PI.runs Φ (X.getD i []++eL X l1 E):=funext fun ρ=>PI.comms _ _ (fun p q hp hq=>by
  unfold eL at hp;obtain⟨j,hj,hp⟩:=iL.1 hp;cases oD:aq E j<;>simp only[oD,cond_true,cond_false] at hp
  case true=>cases hp
  have hc:(gO (X.getD j [])).comm (gO (X.getD i []))=true:=by
   cases ku:(gO (X.getD j [])).comm (gO (X.getD i [])) with
   |true=>rfl
   |false=>
    have oJ:(oZ X N).getD i []=(List.range i).filter fun j=> !(gO (X.getD j [])).comm (gO (X.getD i [])):=by
     unfold oZ;rw[aF,cA,pM hi];rfl
    rw[oJ] at cX;have:=bz.1 cX j (ed.2 ⟨bZ.2 (Wj j hj),by rw[ku];rfl⟩);rw[oD] at this;cases this
  exact Foot.comm_each hc p q hp hq) ρ
 rw[←jq,nW,afz];have:=nW (Φ:=Φ) (a:=X.getD i []) (b:=eL X l1 E) (ρ:=ρ);rw[this,Option.bind_assoc]
 congr 1
 funext ρ1;rw[nW]
def m3 (C:Ctx)(ops:Array Oper):List Nat→St→Option (List (List PI))
 |[],_=>some []
 |i::l,S=>
  match ops[i]? with
  |some o=>(oq C S ops o).bind fun r=>(m3 C ops l r.1).map fun q=>r.2::q
  |none=>none
def T8 (ops:Array Oper):Bool:=(List.range ops.size).all fun i=>match ops[i]? with
 |some o=>(match o.guard with|some (j,_)=>Nat.blt j i|none=>true)
 |none=>true
def yx (ops:Array Oper):Bool:=ops.toList.all fun o=>match o.guard with
 |some (j,_)=>o.after.toList.any fun e=>Region.binds .any e&&Nat.beq e.on j
 |none=>true
def br:Operand→List Nat
 |.tmp t=>[t]
 |_=>[]
def Ah:Option Operand→List Nat
 |some x=>br x
 |none=>[]
def ln:Op→List Nat
 |.move x=>br x
 |.assign x=>br x
 |.unOp _ _ x=>br x
 |.convert _ _ x=>br x
 |.load _ x=>br x
 |.fieldAddr _ x _=>br x
 |.field _ x _=>br x
 |.extract x _=>br x
 |.nilCheck x=>br x
 |.pick c x y=>br c++br x++br y
 |.binOp _ _ x y _=>br x++br y
 |.indexAddr _ x i=>br x++br i
 |.index _ x i=>br x++br i
 |.lookup _ m k _=>br m++br k
 |.slice _ x lo hi _=>br x++Ah lo++Ah hi
 |.build _ ps=>ps.toList.flatMap fun p=>br p.2
 |.call c=>(match c.callee with|.value x=>br x|_=>[])++c.args.toList.flatMap br
 |.store _ x v=>br x++br v
 |.mapUpdate _ m k v=>br m++br k++br v
 |_=>[]
def Gn (ops:Array Oper)(o:Oper):List Nat:=
 match o.guard with
 |some (j,_)=>(match(ops[j]?).bind (·.dst) with|some t=>[t]|none=>[])
 |none=>[]
def St.withR (S:St)(f:Nat→Sh):St:=⟨f,S.o,S.ver⟩
section
variable {C:Ctx} {S:St} {f:Nat→Sh} {gs:List (Nat×Bool)} {dst:Nat}
theorem Aa {t:Nat}(h:f t=S.r t):j6 (S.withR f) gs t=j6 S gs t:=by
 have e:(S.withR f).r t=S.r t:=h;unfold j6;rw[e]
theorem sn {x:Operand}(h:∀t,t∈br x→f t=S.r t):eU (S.withR f) gs x=eU S gs x:=by
 cases x<;>first|rfl|exact Aa (h _ (na.2 rfl))
theorem KF:∀(l:List Sh) (j:PE) (i:Nat),pV (S.withR f) j l i=pV S j l i
 |[],_,_=>rfl
 |s::l,j,i=>by simp only[pV];rw[KF l j (i+1)];rfl
theorem J0:∀(l:List AgC),u9 (S.withR f) l=u9 S l
 |[]=>rfl
 |.dat _::l=>J0 l
 |.obj j ver::l=>by simp only[u9];rw[J0 l];rfl
theorem SB:∀(l:List Sh),sM (S.withR f) l=sM S l
 |[]=>rfl
 |s::l=>by simp only[sM];rw[SB l];rfl
theorem ei {x:Operand}(h:∀t,t∈br x→f t=S.r t):use C (S.withR f) gs x=use C S gs x:=by
 cases x<;>first|rfl|(unfold use;simp only;rw[Aa (h _ (na.2 rfl))];simp only[KF];rfl)
theorem aae {x:Operand}(h:∀t,t∈br x→f t=S.r t):view C (S.withR f) gs x=view C S gs x:=by
 unfold view;rw[ei h];cases x<;>first|rfl|(simp only;rw[Aa (h _ (na.2 rfl))];rfl)
theorem RI:∀{xs:List Operand},(∀t,t∈xs.flatMap br→f t=S.r t)→j7 C (S.withR f) gs xs=j7 C S gs xs
 |[],_=>rfl
 |x::xs,h=>by
  simp only[j7]
  rw[ei fun t ht=>h t (iL.2 ⟨x,dG ..,ht⟩),RI fun t ht=>by
   obtain⟨y,hy,rJ⟩:=iL.1 ht;exact h t (iL.2 ⟨y,dz _ hy,rJ⟩)]
theorem aoc {x:Option Operand}(h:∀t,t∈Ah x→f t=S.r t):Em C (S.withR f) gs x=Em C S gs x:=by
 cases x with
 |none=>rfl
 |some x=>exact ei h
theorem aoa {e:PE}{x:Option Operand}(h:∀t,t∈Ah x→f t=S.r t):El C (S.withR f) gs e x=El C S gs e x:=by
 cases x with
 |none=>rfl
 |some x=>exact ei h
theorem qt:∀{xs:List Operand},(∀t,t∈xs.flatMap br→f t=S.r t)→bJ (S.withR f) gs xs=bJ S gs xs
 |[],_=>rfl
 |x::xs,h=>by
  simp only[bJ]
  rw[sn fun t ht=>h t (iL.2 ⟨x,dG ..,ht⟩),qt fun t ht=>by
   obtain⟨y,hy,rJ⟩:=iL.1 ht;exact h t (iL.2 ⟨y,dz _ hy,rJ⟩)]
  simp only[J0];rfl
theorem ji {P:Nat→Prop}{a b:List Nat}(h:∀t,t∈a++b→P t):(∀t,t∈a→P t)∧∀t,t∈b→P t:=
 ⟨fun t ht=>h t (jr _ ht),fun t ht=>h t (jN _ ht)⟩
theorem XY {x:Operand}(h:∀t,t∈br x→f t=S.r t):pg C (S.withR f) gs dst x=pg C S gs dst x:=by
 unfold pg;rw[ei h];cases x<;>first|rfl|(simp only;rw[Aa (h _ (na.2 rfl))])
theorem aj4 {c x y:Operand}(h:∀t,t∈br c++br x++br y→f t=S.r t):zu C (S.withR f) gs dst c x y=zu C S gs dst c x y:=by
 obtain⟨h1,h3⟩:=ji h;obtain⟨h1,h2⟩:=ji h1;unfold zu;cases c<;>first|rfl|skip
 simp only;rw[Aa (h1 _ (na.2 rfl)),ei h2,ei h3]
theorem ajF {op:BinOp}{T:TypeId}{x y:Operand}(h:∀t,t∈br x++br y→f t=S.r t):zi C (S.withR f) gs dst op T x y=zi C S gs dst op T x y:=by
 obtain⟨h1,h2⟩:=ji h;unfold zi;rw[ei h1,ei h2]
theorem aj9 {op:UnOp}{x:Operand}(h:∀t,t∈br x→f t=S.r t):zx C (S.withR f) gs dst op x=zx C S gs dst op x:=by unfold zx;rw[ei h]
theorem ajJ {s d:TypeId}{x:Operand}(h:∀t,t∈br x→f t=S.r t):zk C (S.withR f) gs dst s d x=zk C S gs dst s d x:=by unfold zk;rw[ei h]
theorem ajW {T:TypeId}{x:Operand}(h:∀t,t∈br x→f t=S.r t):zq C (S.withR f) gs dst T x=zq C S gs dst T x:=by unfold zq;rw[aae h]
theorem XW {b:Bool}{x y:Operand}(h:∀t,t∈br x++br y→f t=S.r t):wz C (S.withR f) gs dst b x y=wz C S gs dst b x y:=by
 obtain⟨h1,h2⟩:=ji h;unfold wz;rw[ei h1,ei h2]
theorem ajY {T:TypeId}{x:Operand}(h:∀t,t∈br x→f t=S.r t):rS C (S.withR f) gs dst T x=rS C S gs dst T x:=by
 unfold rS;rw[sn h,ei h];simp only[KF,SB];rfl
theorem ajN {T:TypeId}{x:Operand}{i:Nat}(h:∀t,t∈br x→f t=S.r t):zn C (S.withR f) gs dst T x i=zn C S gs dst T x i:=by
 unfold zn;rw[sn h,ei h];rfl
theorem ajP {T:TypeId}{x:Operand}{i:Nat}(h:∀t,t∈br x→f t=S.r t):zm C (S.withR f) gs dst T x i=zm C S gs dst T x i:=by unfold zm;rw[ei h]
theorem ajS {T:TypeId}{x i:Operand}(h:∀t,t∈br x++br i→f t=S.r t):zp C (S.withR f) gs dst T x i=zp C S gs dst T x i:=by
 obtain⟨h1,h2⟩:=ji h;unfold zp;rw[ei h1,ei h2,sn h1];rfl
theorem ajU {T:TypeId}{x i:Operand}(h:∀t,t∈br x++br i→f t=S.r t):zo C (S.withR f) gs dst T x i=zo C S gs dst T x i:=by
 obtain⟨h1,h2⟩:=ji h;unfold zo;rw[ei h1,ei h2]
theorem ajL {x:Operand}{i:Nat}(h:∀t,t∈br x→f t=S.r t):zl C (S.withR f) gs dst x i=zl C S gs dst x i:=by unfold zl;rw[ei h]
theorem aj0 {T:TypeId}{m k:Operand}{ok:Bool}(h:∀t,t∈br m++br k→f t=S.r t):zr C (S.withR f) gs dst T m k ok=zr C S gs dst T m k ok:=by
 obtain⟨h1,h2⟩:=ji h;unfold zr;rw[aae h1,ei h2]
theorem aj7 {T:TypeId}{x:Operand}{lo hi mx:Option Operand}(h:∀t,t∈br x++Ah lo++Ah hi→f t=S.r t):zw C (S.withR f) gs dst T x lo hi mx=zw C S gs dst T x lo hi mx:=by
 obtain⟨h1,h3⟩:=ji h;obtain⟨h1,h2⟩:=ji h1;unfold zw;rw[ei h1];simp only[aoc h2,aoa h3]
theorem SV {zs:List Value}{parts:List (Nat×Operand)}(h:∀t,t∈(parts.flatMap fun p=>br p.2)→f t=S.r t):∀(fs:List Field) (i off:Nat),kh C (S.withR f) gs zs parts fs i off=kh C S gs zs parts fs i off
 |[],_,_=>rfl
 |g::fs,i,off=>by
  simp only[kh,SV h fs];cases hp:parts.find? (fun p=>Nat.beq p.1 i) with
  |none=>rfl
  |some p=>
   have hu:∀ft,rT C (S.withR f) gs ft p.2=rT C S gs ft p.2:=fun ft=>by
        unfold rT;rw[ei fun t ht=>h t (iL.2 ⟨p,sF hp,ht⟩),sn fun t ht=>h t (iL.2 ⟨p,sF hp,ht⟩)];rfl
   simp only[hu]
theorem ajH {T:TypeId}{ps:List (Nat×Operand)}(h:∀t,t∈(ps.flatMap fun p=>br p.2)→f t=S.r t):zj C (S.withR f) gs dst T ps=zj C S gs dst T ps:=by
 unfold zj;simp only[SV h];split
 ·rfl
 ·split
  ·split
   ·rename_i x y;rw[ei (x:=x) fun t ht=>h t (by simp[ht]),ei (x:=y) fun t ht=>h t (by simp[ht])]
   ·rfl
  ·rfl
 ·rfl
theorem aj2 {x:Operand}(h:∀t,t∈br x→f t=S.r t):zt C (S.withR f) gs dst x=zt C S gs dst x:=by
 unfold zt;rw[ei h];cases x<;>first|rfl|(simp only;rw[Aa (h _ (na.2 rfl))];rfl)
def mH:Op→Bool
 |.move _|.pick ..|.binOp ..|.unOp ..|.convert ..|.load ..|.fieldAddr ..|.field ..|.indexAddr ..|.index ..|.extract ..|.lookup ..|.slice ..|.build ..|.nilCheck _|.makeInterface ..|.call _=>true
 |_=>false
theorem X0 {op:Op}(hq:mH op=true)(h:∀t,t∈ln op→f t=S.r t):nN C (S.withR f) gs dst op=nN C S gs dst op:=by
 cases op<;>simp only[mH] at hq<;>simp only[ln] at h<;>simp only[nN]
 case move=>exact XY h
 case pick=>exact aj4 h
 case binOp=>exact ajF h
 case unOp=>exact aj9 h
 case convert=>exact ajJ h
 case load=>exact ajY h
 case fieldAddr=>exact ajN h
 case field=>exact ajP h
 case indexAddr=>exact ajS h
 case index=>exact ajU h
 case extract=>exact ajL h
 case lookup=>exact aj0 h
 case slice=>exact aj7 h
 case build=>exact ajH h
 case nilCheck=>exact aj2 h
 case call c=>
  obtain⟨_,h2⟩:=ji h;split
  ·rename_i x T _ ha _;exact ajW fun t ht=>h2 t (by rw[ha];simp[ht])
  ·rename_i x y _ ha;exact XW fun t ht=>h2 t (by rw[ha];simpa using ht)
  ·rename_i x y _ ha;exact XW fun t ht=>h2 t (by rw[ha];simpa using ht)
  ·rfl
 all_goals (cases hq;done)
theorem akB {op:Op}(h:∀t,t∈ln op→f t=S.r t)(hq:mH op=true):rW (S.withR f) gs op=rW S gs op:=by
 cases op<;>simp only[mH] at hq<;>simp only[ln] at h<;>simp only[rW]
 case build T ps=>exact qt fun t ht=>h t (by
  obtain⟨x,hx,cR⟩:=iL.1 ht;obtain⟨p,hp,rfl⟩:=eE.1 hx;exact iL.2 ⟨p,hp,cR⟩)
 case pick c x y=>
  obtain⟨h1,h3⟩:=ji h;obtain⟨h1,h2⟩:=ji h1;refine qt fun t ht=>?_;simp only[qO,R9,kO,de] at ht;exact ht.elim (h2 t) (h3 t)
 case slice T x lo hi mx=>
  obtain⟨h1,h3⟩:=ji h;obtain⟨h1,h2⟩:=ji h1;exact qt fun t ht=>h1 t (by simpa using ht)
 all_goals first|rfl|(cases hq;done)
theorem akC {op:Op}(h:∀t,t∈ln op→f t=S.r t)(hq:mH op=true):pre C (S.withR f) gs op=pre C S gs op:=by
 have vP:=hq;cases op<;>simp only[mH] at hq<;>simp only[pre,akB h vP]
 case load T x=>simp only[ln] at h;rw[sn h];rfl
 all_goals first|(cases hq;done)|skip
theorem aeK {ops:Array Oper}{o:Oper}(h:∀t,t∈Gn ops o→f t=S.r t):oC (S.withR f) ops o=oC S ops o:=by
 unfold oC;cases hg:o.guard with
 |none=>rfl
 |some jw=>
  obtain⟨j,want⟩:=jw;simp only;cases ht:(ops[j]?).bind (·.dst) with
  |none=>rfl
  |some t=>
   simp only;have:(S.withR f).r t=S.r t:=h t (by unfold Gn;rw[hg];simp[ht]);rw[this]
end
def tW (C:Ctx)(c:Callee):Bool:=
 match c with
 |.value (.func f)=>(match C.sig f with|some s=>s.res.pure|none=>false)
 |_=>false
def Bw (C:Ctx)(S:St)(gs:List (Nat×Bool))(dst:Nat)(op:Op):Option (Sh×List PI):=
 match op with
 |.assign x=>
  match gs with
  |[]=>bif C.fr.any (Nat.beq dst)&&(bJ S [] [x]).isEmpty then(match pg C S [] dst x with|some r=>bif mS r.1 then some r else none|none=>none) else none
  |_=>none
 |.call c=>
  match nN C S gs dst (.call c) with
  |some r=>bif qs r.1&&iU gs (some dst) r.2 then some (iT gs r.1,r.2) else none
  |none=>
   bif (bJ S gs c.args.toList).isEmpty||tW C c.callee then
    match c.callee with
    |.value (.func f)=>(match ox C S gs dst f c.args.toList with|some r=>bif iU gs (some dst) r.2.2 then some (iT gs r.2.1,r.2.2) else none|none=>none)
    |.value x=>(match np C S gs dst x c.args.toList with|some r=>bif iU gs (some dst) r.2.2 then some (iT gs r.2.1,r.2.2) else none|none=>none)
    |_=>none
   else none
 |op=>bif mH op&&(pre C S gs op).isEmpty then(match nN C S gs dst op with|some r=>bif qs r.1&&iU gs (some dst) r.2 then some (iT gs r.1,r.2) else none|none=>none) else none
def By (C:Ctx)(S:St)(gs:List (Nat×Bool))(op:Op):Option (List PI):=
 match op,gs with
 |.store T x v,[]=>
  match eU S [] x with
  |.eptr ..=>bif (bJ S [] [v]).isEmpty then(sR C S T x v).map (·.2) else none
  |_=>none
 |.mapUpdate T m k v,[]=>bif (bJ S [] [k,v]).isEmpty then(q7 C S T m k v).map (·.2) else none
 |.panic _,[]=>some [.chk (.nt (.con (.bool true)))]
 |_,_=>none
def sY (C:Ctx)(S:St)(ops:Array Oper)(o:Oper):Option (Sh×List PI):=
 match C.yl with
 |some _=>none
 |none=>(oC S ops o).bind fun gs=>
  match o.dst with
  |some dst=>Bw C S gs dst o.op
  |none=>(By C S gs o.op).map fun l=>(.none,l)
def m4 (S:St)(o:Oper)(s:Sh):St:=match o.dst with|some d=>S.setR d s|none=>S
section
variable {C:Ctx} {S:St} {f:Nat→Sh} {gs:List (Nat×Bool)} {dst:Nat}
theorem aeu (j:Nat):(S.withR f).fz j=(S.fz j).withR f:=by
 unfold St.fz St.withR;simp only;split<;>rfl
theorem T2:∀(js:List Nat) {S:St},(S.withR f).fzs js=(S.fzs js).withR f
 |[],_=>rfl
 |j::js,S=>by
  show((S.withR f).fz j).fzs js=((S.fz j).fzs js).withR f;rw[aeu,T2 js]
theorem acN {g:Nat}{xs:List Operand}(h:∀t,t∈xs.flatMap br→f t=S.r t):
 (match ox C (S.withR f) gs dst g xs with|some r=>bif iU gs (some dst) r.2.2 then some (iT gs r.2.1,r.2.2) else none|none=>none)=(match ox C S gs dst g xs with|some r=>bif iU gs (some dst) r.2.2 then some (iT gs r.2.1,r.2.2) else none|none=>none):=by
 have ho:=qt (gs:=gs) h;unfold ox;generalize (C.sig g).bind (A4 C.fr dst)=q;cases q with
 |none=>rfl
 |some s=>
  simp only[jQ];cases s.mode<;>first|rfl|skip
  simp only[ho,T2];rw[RI (S:=S.fzs (bJ S gs xs)) (f:=f) (fun t ht=>by rw[(nu _ S).2];exact h t ht)];cases j7 C (S.fzs (bJ S gs xs)) gs xs with
  |none=>rfl
  |some u=>
   simp only[jQ];cases Ty.subs u.1 s.args<;>rfl
theorem acE {x:Operand}{xs:List Operand}(hx:∀t,t∈br x→f t=S.r t)(h:∀t,t∈xs.flatMap br→f t=S.r t)(he:(bJ S gs xs).isEmpty=true):
 (match np C (S.withR f) gs dst x xs with|some r=>bif iU gs (some dst) r.2.2 then some (iT gs r.2.1,r.2.2) else none|none=>none)=(match np C S gs dst x xs with|some r=>bif iU gs (some dst) r.2.2 then some (iT gs r.2.1,r.2.2) else none|none=>none):=by
 have ho:=qt (gs:=gs) h;have oH:=sD.1 he;unfold np;rw[ei hx];cases use C S gs x with
 |none=>rfl
 |some y=>
  obtain⟨ty,e⟩:=y;cases ty with
  |fn aa r=>
   simp only;cases l0 aa r with
   |some _=>rfl
   |none=>
    simp only[ho,oH,St.fzs,List.foldl_nil,RI h];cases j7 C S gs xs with
    |none=>rfl
    |some u=>
     simp only[jQ];cases Ty.subs u.1 aa<;>rfl
  |_=>rfl
theorem adI {op:Op}(h:∀t,t∈ln op→f t=S.r t):Bw C (S.withR f) gs dst op=Bw C S gs dst op:=by
 have other:∀op,(∀t,t∈ln op→f t=S.r t)→(bif mH op&&(pre C (S.withR f) gs op).isEmpty then(match nN C (S.withR f) gs dst op with|some r=>bif qs r.1&&iU gs (some dst) r.2 then some (iT gs r.1,r.2) else none|none=>none) else none)=
  (bif mH op&&(pre C S gs op).isEmpty then(match nN C S gs dst op with|some r=>bif qs r.1&&iU gs (some dst) r.2 then some (iT gs r.1,r.2) else none|none=>none) else none):=by
  intro op h;cases hq:mH op with
  |false=>rfl
  |true=>rw[akC h hq,X0 hq h]
 unfold Bw;split
 ·rename_i x;simp only[ln] at h;rw[XY h,qt (xs:=[x]) fun t ht=>h t (by simpa using ht)]
 ·rename_i c;have h':=h;simp only[ln] at h';obtain⟨h1,h2⟩:=ji h';rw[X0 (op:=.call c) rfl h,qt h2];split
  ·rfl
  ·cases he:(bJ S gs c.args.toList).isEmpty||tW C c.callee with
   |false=>rfl
   |true=>
    simp only[cond_true];split
    ·exact acN h2
    ·rename_i x hx hc;have hp:tW C c.callee=false:=by
         rw[hc];unfold tW;cases x<;>first|rfl|exact absurd rfl (hx _)
     exact acE (fun t ht=>h1 t (by rw[hc];exact ht)) h2 (by rw[hp,sw] at he;exact he)
    ·rfl
 ·exact other _ h
theorem adJ {op:Op}(h:∀t,t∈ln op→f t=S.r t):By C (S.withR f) gs op=By C S gs op:=by
 unfold By;split
 ·rename_i T x v;simp only[ln] at h;obtain⟨h1,h2⟩:=ji h;rw[sn h1,qt (xs:=[v]) fun t ht=>h2 t (by simpa using ht)];split
  ·rename_i j ver size off eu;cases(bJ S [] [v]).isEmpty with
   |false=>rfl
   |true=>
    simp only[cond_true];unfold sR;rw[sn h1,ei h2,eu];simp only;have eo:(S.withR f).o=S.o:=rfl;have ev:(S.withR f).ver=S.ver:=rfl;rw[eo,ev];cases C.P.info? T with
    |none=>rfl
    |some inf=>
     simp only;cases Nat.beq ver (S.ver j) with
     |false=>rfl
     |true=>
      simp only[cond_true];cases S.o j with
      |row T' e0=>
       cases use C S [] v with
       |none=>cases e0<;>rfl
       |some y=>
        obtain⟨t,e⟩:=y;cases e0<;>simp only<;>(generalize (_&&_:Bool)=b;cases b<;>rfl)
      |_=>rfl
  ·rfl
 ·rename_i T m k v;simp only[ln] at h;obtain⟨h1,h3⟩:=ji h;obtain⟨h1,h2⟩:=ji h1
  rw[qt (xs:=[k,v]) fun t ht=>by
   simp only[qO,R9,kO,de] at ht;exact ht.elim (h2 t) (h3 t)]
  cases(bJ S [] [k,v]).isEmpty with
  |false=>rfl
  |true=>
   simp only[cond_true];unfold q7;rw[sn h1,ei h2,ei h3];have eo:(S.withR f).o=S.o:=rfl;have ev:(S.withR f).ver=S.ver:=rfl;rw[eo,ev];cases C.P.underlying T with
   |none=>rfl
   |some desc=>
    cases desc with
    |map K E=>
     cases eU S [] m with
     |obj j ver=>
      simp only;cases Nat.beq ver (S.ver j) with
      |false=>rfl
      |true=>
       simp only[cond_true];cases S.o j with
       |mp kt et=>
        cases use C S [] k with
        |none=>rfl
        |some y=>
         cases use C S [] v with
         |none=>rfl
         |some z=>
          obtain⟨tk,ek⟩:=y;obtain⟨tv,ev⟩:=z;simp only;generalize (_&&_:Bool)=b;cases b<;>rfl
       |_=>rfl
     |_=>rfl
    |_=>rfl
 ·rfl
 ·rfl
theorem adL {ops:Array Oper}{o:Oper}(h:∀t,t∈ln o.op++Gn ops o→f t=S.r t):sY C (S.withR f) ops o=sY C S ops o:=by
 obtain⟨h1,h2⟩:=ji h;unfold sY;rw[aeK h2];split
 ·rfl
 ·cases oC S ops o with
  |none=>rfl
  |some gs=>
   simp only[jQ];split
   ·exact adI h1
   ·rw[adJ h1]
theorem alr {S:St}{t:Nat}{s:Sh}(h:S.r t=s)(hs:mS s=true):wM S t t=some (S,[]):=by
 unfold wM;rw[h];cases s<;>first|rfl|cases hs
theorem adK {ops:Array Oper}{o:Oper}{q:Sh×List PI}(h:sY C S ops o=some q):oq C S ops o=some (m4 S o q.1,q.2):=by
 unfold sY at h;split at h
 case h_1=>cases h
 rename_i lX;simp only[ao] at h;obtain⟨gs,dR,h⟩:=h;have hY:yg C S ops o=none:=by
  unfold yg;rw[lX];split<;>first|rfl|(rename_i hx;cases hx;done)|(rename_i hx _;cases hx;done)
 have fin:∀{S':St},pre C S gs o.op++pj C S gs o=[]→core C S gs o=some (S',q.2)→jz C (post C S' o) S'=some (S',[])→iU gs o.dst q.2=true→oq C S ops o=some (S',q.2):=by
  intro S' h1 h2 h3 h4;unfold oq yf A0;rw[hY,dR];simp only[jQ,h1,jz,h2,h3,h4,cond_true,qT,kO]
 cases hd:o.dst with
 |some dst=>
  simp only[hd] at h;have bX:m4 S o q.1=S.setR dst q.1:=by unfold m4;rw[hd]
  rw[bX];unfold Bw at h;split at h
  ·rename_i x bQ;split at h
   case h_2=>cases h
   cases hb:(C.fr.any (Nat.beq dst)&&(bJ S [] [x]).isEmpty)<;>simp only[hb,cond_true,cond_false] at h
   ·cases h
   simp only[aj] at hb;split at h
   case h_2=>cases h
   rename_i r hr;cases UE:mS r.1<;>simp only[UE,cond_true,cond_false] at h
   ·cases h
   cases h;have he:=sD.1 hb.2;refine fin ?_ ?_ ?_ rfl
   ·rw[bQ];unfold pj;rw[bQ,hd];simp only[hb.1,he,cond_true,pre,rW,Av,kO]
   ·unfold core;rw[hd];simp only[bQ,nN,hb.1,cond_true,hr]
   ·unfold post;rw[bQ,hd];simp only[jz,Gh.run];rw[alr (s:=q.1) (by simp[St.setR,aG]) UE];rfl
  ·rename_i c bQ;have MB:pre C S gs o.op++pj C S gs o=[]:=by
        rw[bQ];unfold pj;rw[bQ];simp[pre,rW]
   have jX:∀S':St,jz C (post C S' o) S'=some (S',[]):=fun S'=>by
        unfold post;rw[bQ];rfl
   split at h
   ·rename_i r hr;cases hb:(qs r.1&&iU gs (some dst) r.2)<;>simp only[hb,cond_true,cond_false] at h
    ·cases h
    cases h;simp only[aj] at hb;refine fin MB ?_ (jX _) (by rw[hd];exact hb.2);unfold core;rw[hd];simp only[bQ,hr,hb.1,cond_true]
   ·rename_i hr;cases he:(bJ S gs c.args.toList).isEmpty||tW C c.callee<;>simp only[he,cond_true,cond_false] at h
    ·cases h
    have ZP:∀b:Bool,(bJ S gs c.args.toList).isEmpty=true∨b=true→(bif b then S else S.fzs (bJ S gs c.args.toList))=S:=fun b hb=>by
     rcases hb with hb|rfl
     ·rw[sD.1 hb];cases b<;>rfl
     ·rfl
    split at h
    ·rename_i f hc;split at h
     case h_2=>cases h
     rename_i r dS;cases hb:iU gs (some dst) r.2.2<;>simp only[hb,cond_true,cond_false] at h
     ·cases h
     cases h;refine fin MB ?_ (jX _) (by rw[hd];exact hb);have hS:r.1=S:=by
      simp only[ox,ao] at dS;obtain⟨s,⟨s0,hs,ja⟩,dS⟩:=dS;split at dS
      case h_2=>cases dS
      simp only[ao] at dS;obtain⟨u,hu,dS⟩:=dS;cases bI:Ty.subs u.1 s.args<;>simp only[bI,cond_true,cond_false] at dS
      ·cases dS
      cases dS;refine ZP _ ?_;have Cw:s.res=s0.res:=by
       unfold A4 at ja;split at ja
       ·revert ja
        generalize (_&&_:Bool)=b;intro ja;cases b<;>simp only[cond_true,cond_false,aO] at ja<;>rw[←ja]
       ·simp only[aO] at ja;rw[←ja]
      rw[hc] at he;simp only[tW,hs,gw] at he;rw[Cw];exact he
     unfold core;rw[hd];simp only[bQ,hr,hc,dS,hS]
    ·rename_i x Ha hc;split at h
     case h_2=>cases h
     rename_i r dS;cases hb:iU gs (some dst) r.2.2<;>simp only[hb,cond_true,cond_false] at h
     ·cases h
     cases h;refine fin MB ?_ (jX _) (by rw[hd];exact hb);have hS:r.1=S:=by
      unfold np at dS;split at dS
      case h_2=>cases dS
      rename_i aa r0 e vW;split at dS
      case h_1=>cases dS
      simp only[ao] at dS;obtain⟨u,hu,dS⟩:=dS;cases bI:Ty.subs u.1 aa<;>simp only[bI,cond_true,cond_false] at dS
      ·cases dS
      cases dS;refine ZP _ (.inl ?_);have hp:tW C c.callee=false:=by
       rw[hc];unfold tW;cases x<;>first|rfl|exact absurd rfl (Ha _)
      rw[hp,sw] at he;exact he
     unfold core;rw[hd];simp only[bQ,hr,hc];cases x with
     |func f=>exact absurd rfl (Ha f)
     |_=>simp only[dS,hS]
    ·cases h
  ·rename_i U6 cX;cases hb:(mH o.op&&(pre C S gs o.op).isEmpty)<;>simp only[hb,cond_true,cond_false] at h
   ·cases h
   simp only[aj] at hb;split at h
   case h_2=>cases h
   rename_i r hr;cases bk:(qs r.1&&iU gs (some dst) r.2)<;>simp only[bk,cond_true,cond_false] at h
   ·cases h
   cases h;simp only[aj] at bk;have cW:pj C S gs o=[]:=by
        unfold pj;split
        ·rename_i x t e _;exact absurd e (U6 x)
        ·rfl
   have jX:∀S':St,jz C (post C S' o) S'=some (S',[]):=fun S'=>by
        have:post C S' o=[]:=by
         unfold post;split
         ·rename_i x t e _;exact absurd e (U6 x)
         ·rename_i T t e _;rw[e] at hb;simp[mH] at hb
         ·rename_i T x v e;rw[e] at hb;simp[mH] at hb
         ·rfl
        rw[this];rfl
   refine fin (by rw[cW,sD.1 hb.2];rfl) ?_ (jX _) (by rw[hd];exact bk.2);unfold core;rw[hd];simp only[hr,bk.1,cond_true]
 |none=>
  simp only[hd,av] at h;obtain⟨l,h,rfl⟩:=h;have bX:m4 S o (.none:Sh)=S:=by unfold m4;rw[hd]
  show oq C S ops o=some (m4 S o .none,l);rw[bX];have cW:pj C S gs o=[]:=by unfold pj;rw[hd];split<;>first|rfl|(rename_i hx;cases hx)
  unfold By at h;split at h
  ·rename_i T x v bQ;split at h
   case h_2=>cases h
   rename_i j ver size off eu;cases he:(bJ S [] [v]).isEmpty<;>simp only[he,cond_true,cond_false] at h
   ·cases h
   simp only[av] at h;obtain⟨r,hr,rfl⟩:=h;have hS:r.1=S:=by
        unfold sR at hr;split at hr
        case h_2=>cases hr
        rw[eu] at hr;simp only at hr;cases hv:Nat.beq ver (S.ver j)<;>simp only[hv,cond_true,cond_false] at hr
        ·cases hr
        split at hr
        ·revert hr;generalize (_&&_:Bool)=b;intro hr;cases b<;>simp only[cond_true,cond_false] at hr<;>cases hr;rfl
        ·revert hr;generalize (_&&_:Bool)=b;intro hr;cases b<;>simp only[cond_true,cond_false] at hr<;>cases hr;rfl
        ·cases hr
   refine fin ?_ ?_ ?_ rfl
   ·rw[cW,bQ];simp only[pre,rW,eu,sD.1 he,Av,kO]
   ·unfold core;rw[hd];simp only[bQ,hr];rw[←hS]
   ·unfold post;rw[bQ];simp only[eu];rfl
  ·rename_i T m k v bQ;cases he:(bJ S [] [k,v]).isEmpty<;>simp only[he,cond_true,cond_false] at h
   ·cases h
   simp only[av] at h;obtain⟨r,hr,rfl⟩:=h;have hS:r.1=S:=by
        unfold q7 at hr;split at hr
        ·rename_i K _ j ver _ _;cases hv:Nat.beq ver (S.ver j)<;>simp only[hv,cond_true,cond_false] at hr
         ·cases hr
         split at hr
         ·revert hr;generalize (_&&_:Bool)=b;intro hr;cases b<;>simp only[cond_true,cond_false] at hr<;>cases hr;rfl
         ·cases hr
        ·cases hr
   refine fin ?_ ?_ ?_ rfl
   ·rw[cW,bQ];simp only[pre,rW,sD.1 he,Av,kO]
   ·unfold core;rw[hd];simp only[bQ,hr];rw[←hS]
   ·unfold post;rw[bQ];rfl
  ·rename_i x bQ;cases h;refine fin ?_ ?_ ?_ rfl
   ·rw[cW,bQ];rfl
   ·unfold core;rw[hd];simp only[bQ]
   ·unfold post;rw[bQ];rfl
  ·cases h
end
def fE (ops:Array Oper)(shs:List Sh)(l:List Nat)(f:Nat→Sh):Nat→Sh:=
 l.foldl (fun f i=>match(ops[i]?).bind (·.dst) with|some d=>bO f d (shs.getD i .none)|none=>f) f
def yt (C:Ctx)(S:St)(ops:Array Oper):Nat→Option (List (Sh×List PI))
 |0=>some []
 |k+1=>(yt C S ops k).bind fun q=>match ops[k]? with
  |some o=>(sY C (S.withR (fE ops (q.map (·.1)) (List.range k) S.r)) ops o).map fun r=>q++[r]
  |none=>none
def dH (ops:Array Oper):Nat→List Nat
 |0=>[]
 |k+1=>dH ops k++[match ops[k]? with
  |some o=>o.after.toList.foldr (fun e m=>bif Region.binds .any e then Nat.lor (Nat.lor (dO e.on) ((dH ops k).getD e.on 0)) m else m) 0
  |none=>0]
def Ze (ops:Array Oper)(o:Oper):List Nat:=ln o.op++Gn ops o
def TS (ops:Array Oper)(nc:List (List Nat))(clo:List Nat)(i:Nat):Bool:=
 match ops[i]? with
 |some o=>(nc.getD i []).all (aq (clo.getD i 0))&&(o.after.toList.all fun e=> !Region.binds .any e||Nat.blt e.on i)&&
   (Ze ops o).all fun t=>(List.range ops.size).all fun j=>match(ops[j]?).bind (·.dst) with
     |some d=> !Nat.beq d t||((Nat.blt j i&&aq (clo.getD i 0) j)||aq (clo.getD j 0) i)
     |none=>true
 |none=>false
def Gf (ops:Array Oper)(i:Nat):Bool:=match ops[i]? with|some o=>o.after.toList.all fun e=> !Region.binds .any e||Nat.blt e.on i|none=>false
def Bz (ops:Array Oper)(nc:List (List Nat))(clo:List Nat)(m:Nat):Bool:=(List.range m).all (TS ops nc clo)&&(List.range ops.size).all (Gf ops)
def nY (clo:List Nat):Nat→Nat
 |0=>0
 |k+1=>bif (List.range k).all (aq (clo.getD k 0)) then nY clo k else k+1
theorem ZX (clo:List Nat):∀k,nY clo k≤k
 |0=>aU _
 |k+1=>by
  unfold nY;cases(List.range k).all (aq (clo.getD k 0)) with
  |true=>exact Nat.le_succ_of_le (ZX clo k)
  |false=>exact aU _
theorem ZW (clo:List Nat):∀k i,nY clo k≤i→i<k→∀j,j<i→aq (clo.getD i 0) j=true
 |0,i,_,h=>by omega
 |k+1,i,h1,h2=>by
  unfold nY at h1;cases hb:(List.range k).all (aq (clo.getD k 0)) with
  |true=>
   rw[hb] at h1;by_cases e:i=k
   ·subst e;exact fun j hj=>bz.1 hb j (bZ.2 hj)
   ·exact ZW clo k i h1 (by omega)
  |false=>rw[hb] at h1;simp only[cond_false] at h1;omega
def TU (C:Ctx)(ops:Array Oper)(S:St):Option (St×List PI):=
 (yt C S ops (nY (dH ops ops.size) ops.size)).bind fun q=>
    bif Bz ops (oZ (q.map (·.2)) (nY (dH ops ops.size) ops.size)) (dH ops ops.size) (nY (dH ops ops.size) ops.size) then
     (nm C ops (List.range' (nY (dH ops ops.size) ops.size) (ops.size-nY (dH ops ops.size) ops.size)) (S.withR (fE ops (q.map (·.1)) (List.range (nY (dH ops ops.size) ops.size)) S.r))).map fun r=>(r.1,(q.map (·.2)).flatten++r.2)
    else none
theorem Ja (ops:Array Oper)(shs:List Sh)(i:Nat)(l:List Nat)(f:Nat→Sh):fE ops shs (i::l) f=fE ops shs l (match(ops[i]?).bind (·.dst) with|some d=>bO f d (shs.getD i .none)|none=>f):=rfl
theorem Ed {ops:Array Oper}{shs:List Sh}{t:Nat}:∀{l:List Nat} {f:Nat→Sh},(∀i,i∈l→(ops[i]?).bind (·.dst)≠some t)→fE ops shs l f t=f t
 |[],_,_=>rfl
 |i::l,f,h=>by
  rw[Ja,Ed fun j hj=>h j (dz _ hj)];have:=h i (dG ..);cases hd:(ops[i]?).bind (·.dst) with
  |none=>rfl
  |some d=>exact bf _ _ (fun e=>this (by rw[hd,e]))
def JR (ops:Array Oper):Prop:=∀(i j t:Nat),(ops[i]?).bind (·.dst)=some t→(ops[j]?).bind (·.dst)=some t→i=j
theorem I9 {ops:Array Oper}(ho:JR ops){shs:List Sh}{t i:Nat}(ht:(ops[i]?).bind (·.dst)=some t):∀{l:List Nat} {f:Nat→Sh},i∈l→fE ops shs l f t=shs.getD i .none
 |[],_,h=>nomatch h
 |j::l,f,h=>by
  rw[Ja];by_cases hl:i∈l
  ·exact I9 ho ht hl
  ·have e:i=j:=(df.1 h).resolve_right hl;subst e;rw[Ed fun k hk e=>hl (by rw[ho i k t ht e];exact hk),ht];exact aG _ _ _
theorem ZO {ops:Array Oper}(ho:JR ops){shs PO:List Sh}{l m:List Nat}{f:Nat→Sh}{t:Nat}(h1:∀i,(ops[i]?).bind (·.dst)=some t→(i∈l↔i∈m))(h2:∀i,i∈l→(ops[i]?).bind (·.dst)=some t→shs.getD i .none=PO.getD i .none):fE ops shs l f t=fE ops PO m f t:=by
 by_cases hh:∃i,i∈l∧(ops[i]?).bind (·.dst)=some t
 ·obtain⟨i,hi,ht⟩:=hh;rw[I9 ho ht hi,I9 ho ht ((h1 i ht).1 hi),h2 i hi ht]
 ·rw[Ed fun i hi e=>hh ⟨i,hi,e⟩,Ed fun i hi e=>hh ⟨i,(h1 i e).2 hi,e⟩]
theorem ajD {ops:Array Oper}(h:(ops.toList.filterMap (·.dst)).Nodup):JR ops:=by
 intro i j t hi hj;rw[ao] at hi hj;obtain⟨oi,h1,h2⟩:=hi;obtain⟨oj,h3,h4⟩:=hj;by_cases e:i=j
 ·exact e
 ·exact(vj.dst_once h h1 h3 h2 h4 e).elim
theorem Lh {C:Ctx}{S:St}{ops:Array Oper}:∀{k:Nat} {q:List (Sh×List PI)},yt C S ops k=some q→q.length=k∧∀i,i<k→∃o,ops[i]?=some o∧
 sY C (S.withR (fE ops (q.map (·.1)) (List.range i) S.r)) ops o=some ((q.map (·.1)).getD i .none,(q.map (·.2)).getD i [])
 |0,q,h=>by simp only[yt,aO] at h;subst h;exact⟨rfl,fun i hi=>by omega⟩
 |k+1,q,h=>by
  simp only[yt,ao] at h;obtain⟨p,hp,h⟩:=h;split at h
  case h_2=>cases h
  rename_i o ho;simp only[av] at h;obtain⟨r,hr,rfl⟩:=h;obtain⟨l1,aD⟩:=Lh hp;have same:∀i,i≤k→fE ops ((p++[r]).map (·.1)) (List.range i) S.r=fE ops (p.map (·.1)) (List.range i) S.r:=by
   intro i hi;have key:∀(l:List Nat) (f:Nat→Sh),(∀j,j∈l→j<p.length)→fE ops ((p++[r]).map (·.1)) l f=fE ops (p.map (·.1)) l f:=by
    intro l
    induction l with
    |nil=>intro f _;rfl
    |cons j l ih=>
     intro f hl;have hj:=hl j (dG ..);have e:((p++[r]).map (·.1)).getD j .none=(p.map (·.1)).getD j .none:=by
       rw[m9,aF,kf (by simpa using hj),←aF]
     rw[Ja,Ja,e,ih _ fun m hm=>hl m (dz _ hm)]
   exact key _ _ fun j hj=>by have:=bZ.1 hj;omega
  refine⟨by simp[l1],fun i hi=>?_⟩;by_cases e:i=k
  ·subst e;refine⟨o,ho,?_⟩;rw[same i (aU _),hr];have e1:((p++[r]).map (·.1)).getD i .none=r.1:=by
    rw[m9,aF,iJ (by simp[l1])];simp[l1]
   have e2:((p++[r]).map (·.2)).getD i []=r.2:=by
    rw[m9,aF,iJ (by simp[l1])];simp[l1]
   rw[e1,e2]
  ·obtain⟨o',h1,h2⟩:=aD i (by omega);refine⟨o',h1,?_⟩;rw[same i (by omega),h2];have:i<p.length:=by omega
   simp only[m9,aF];rw[kf (by simpa using this),kf (by simpa using this)]
theorem F1 (ops:Array Oper):∀k,(dH ops k).length=k
 |0=>rfl
 |k+1=>by simp[dH,F1 ops k]
theorem Te (ops:Array Oper){k m i:Nat}(h:i<k)(hm:k≤m):(dH ops m).getD i 0=(dH ops k).getD i 0:=by
 induction m with
 |zero=>omega
 |succ m ih=>
  by_cases e:k=m+1
  ·rw[e]
  ·rw[←ih (by omega)];simp only[dH,aF];rw[kf (by rw[F1];omega)]
theorem F2 {ops:Array Oper}{N i m:Nat}{o:Oper}(hi:i<N)(ho:ops[i]?=some o)(ae:(o.after.toList.all fun e=> !Region.binds .any e||Nat.blt e.on i)=true)(h:aq ((dH ops N).getD i 0) m=true):
 ∃e,e∈o.after.toList∧Region.binds .any e=true∧(m=e.on∨aq ((dH ops N).getD e.on 0) m=true):=by
 rw[Te ops (k:=i+1) (by omega) (by omega)] at h
 have e1:(dH ops (i+1)).getD i 0=o.after.toList.foldr (fun e m=>bif Region.binds .any e then Nat.lor (Nat.lor (dO e.on) ((dH ops i).getD e.on 0)) m else m) 0:=by
  simp only[dH,aF];rw[iJ (by rw[F1];exact aU _),F1];simp[ho]
 rw[e1] at h;have aD:=bz.1 ae;generalize o.after.toList=l at h aD
 induction l with
 |nil=>rw[q6] at h;simp at h
 |cons e l ih=>
  simp only[List.foldr_cons] at h;cases hb:Region.binds .any e<;>rw[hb] at h<;>simp only[cond_true,cond_false] at h
  ·obtain⟨e',h1,h2⟩:=ih h (fun x hx=>aD x (dz _ hx));exact⟨e',dz _ h1,h2⟩
  ·rw[fo,fo,gw,gw] at h;have oP:e.on<i:=by
        have:=aD e (dG ..);rw[hb] at this;simpa [ia] using this
   rcases h with(h|h)|h
   ·refine⟨e,dG ..,hb,.inl ?_⟩;have:=iP 0 e.on m;have z:aq 0 m=false:=by rw[q6];simp
    rw[fo,z,pJ,pJ,h] at this;exact(cM this.symm).symm
   ·refine⟨e,dG ..,hb,.inr ?_⟩;rw[Te ops oP (by omega)];exact h
   ·obtain⟨e',h1,h2⟩:=ih h (fun x hx=>aD x (dz _ hx));exact⟨e',dz _ h1,h2⟩
section
variable {C:Ctx} {S:St} {ρ:Env} {σ:Im} {own:Nat→Option Nat} {hv:Nat→Value} {w0:World} {σ0:Base} {A:Nat→Prop} {a:Act} {w:World} {n:Nat} {ids:List Nat} {Φ:aR}
theorem Zf {ops:Array Oper}{listed:Array Bool}{E:Nat}(aA:listed.size=ops.size)(hl:∀i,listed.getD i false=aq E i)(i:Nat):i∈Region.ready .any ops listed↔i∈lD ops E:=by
 unfold Region.ready lD;simp only[ed,bZ];refine and_congr_right fun hi=>?_;have h1:listed.getD i true=aq E i:=by
  rw[←hl i];simp only[ej];rw[dX (by omega)];rfl
 have h2:ops[i]?=some ops[i]:=dX hi;rw[h1,h2];simp only[kg,mD,←RQ,hl]
def ux (ops:Array Oper)(E:Nat):Nat→Prop:=fun t=>∃i o,aq E i=true∧ops[i]?=some o∧o.dst=some t
def qI (ops:Array Oper)(E:Nat):Nat:=((List.range ops.size).filter fun i=> !aq E i).length
theorem an4 {ops:Array Oper}{E i:Nat}(hi:i<ops.size)(hb:aq E i=false):qI ops E=qI ops (Nat.lor E (dO i))+1:=by
 unfold qI;obtain⟨l1,l2,hl⟩:=R2 (bZ.2 hi);have be:=JN (n:=ops.size);rw[hl,Aw] at be;obtain⟨_,h2,h3⟩:=be;rw[mB] at h2;have g1:∀j,j∈l1→j≠i:=fun j hj=>h3 j hj i (dG ..);have g2:∀j,j∈l2→j≠i:=fun j hj e=>h2.1 (e▸hj)
 have c:∀l:List Nat,(∀j,j∈l→j≠i)→(l.filter fun j=> !aq (Nat.lor E (dO i)) j)=l.filter fun j=> !aq E j:=by
  intro l hl;apply List.filter_congr;intro j hj;rw[iP,eX (fun e=>hl j hj e.symm),sw]
 have cv:aq (Nat.lor E (dO i)) i=true:=by rw[iP,gL,m8]
 rw[hl];simp only[EB,List.filter_cons,c l1 g1,c l2 g2,hb,cv,qN,Bool.not_false,if_true,uQ,if_false,iK,og];omega
theorem adN {rd:Option Nat}(hC:CtxOK C σ0)(aP:dY C)(hΦ:dF C Φ)(hY:pP C Φ w0 σ0){a0:Act}(Mj:a0.tmps.size=n){ops:Array Oper}(ax:qB n ops=true)(fq:yx ops=true){m:Nat}(hm:m≤ops.size){q:List (Sh×List PI)}(hq:yt C S ops m=some q)
 (tz:Bz ops (oZ (q.map (·.2)) m) (dH ops ops.size) m=true) (yZ:∀i,m≤i→i<ops.size→∀j,j<i→aq ((dH ops ops.size).getD i 0) j=true) {Q:Exit→Act→World→Prop} {ρ':Env}
 (hK:∀listed a' w',listed.size=ops.size→(∀i,listed.getD i false=decide (i<m))→SameBut (pY ops) a0 a'→Good C w0 σ0 (S.withR (fE ops (q.map (·.1)) (List.range m) S.r)) ρ' (lE ops (List.range m)) a' w'→wpAnyIn (FR rd) 0 C.P .any ops Q (ops.size-m) listed a' w'):
 ∀(k E:Nat) (listed:Array Bool) (ρ:Env) (a:Act) (w:World),qI ops E=k→(∀j,aq E j=true→j<m)→(∀j,j<ops.size→aq E j=true→∀m,aq ((dH ops ops.size).getD j 0) m=true→aq E m=true)→listed.size=ops.size→(∀i,listed.getD i false=aq E i)→SameBut (pY ops) a0 a→
  Good C w0 σ0 (S.withR (fE ops (q.map (·.1)) ((List.range m).filter (aq E)) S.r)) ρ (ux ops E) a w→PI.runs Φ (eL (q.map (·.2)) (List.range m) E) ρ=some ρ'→wpAnyIn (FR rd) 0 C.P .any ops Q k listed a w:=by
 have Hd:=ax;simp only[qB,aj] at ax;have be:=l8 ax.1;have Mv:=ajD be;obtain⟨hlen,aD⟩:=Lh hq;unfold Bz at tz;rw[aj] at tz
 have BL:∀i,i<ops.size→∀o,ops[i]?=some o→(o.after.toList.all fun e=> !Region.binds .any e||Nat.blt e.on i)=true:=by
  intro i hi o ho;have:=bz.1 tz.2 i (bZ.2 hi);unfold Gf at this;rw[ho] at this;exact this
 have agO:∀i,i<m→∀o,ops[i]?=some o→((oZ (q.map (·.2)) m).getD i []).all (aq ((dH ops ops.size).getD i 0))=true∧
  ∀t,t∈Ze ops o→∀j,j<ops.size→(ops[j]?).bind (·.dst)=some t→(j<i∧aq ((dH ops ops.size).getD i 0) j=true)∨aq ((dH ops ops.size).getD j 0) i=true:=by
  intro i hi o ho;have:=bz.1 tz.1 i (bZ.2 hi);unfold TS at this;rw[ho] at this;simp only[aj] at this;refine⟨this.1.1,fun t ht j hj hd=>?_⟩;have:=bz.1 (bz.1 this.2 t ht) j (bZ.2 hj);rw[hd] at this;simp only[gL,qN,pJ,gw,aj,ia] at this;exact this
 have SF:∀(k E:Nat) (listed:Array Bool) (ρ:Env) (a:Act) (w:World),(∀i,i<m→aq E i=true)→qI ops E=k→(∀j,aq E j=true→j<m)→listed.size=ops.size→(∀i,listed.getD i false=aq E i)→SameBut (pY ops) a0 a→
  Good C w0 σ0 (S.withR (fE ops (q.map (·.1)) ((List.range m).filter (aq E)) S.r)) ρ (ux ops E) a w→PI.runs Φ (eL (q.map (·.2)) (List.range m) E) ρ=some ρ'→wpAnyIn (FR rd) 0 C.P .any ops Q k listed a w:=by
  intro k E listed ρ a w ij hk vN aA hl hn hg af;have hb:∀i,aq E i=decide (i<m):=by
   intro i;by_cases h:i<m
   ·rw[ij i h,decide_eq_true h]
   ·rw[decide_eq_false h];cases hb:aq E i with
    |false=>rfl
    |true=>exact absurd (vN i hb) h
  have LV:eL (q.map (·.2)) (List.range m) E=[]:=by
   unfold eL;rw[aaC];intro i hi;rw[ij i (bZ.1 hi)];rfl
  rw[LV] at af;simp only[PI.runs,aO] at af;subst af;have afy:qI ops E=ops.size-m:=by
   unfold qI
   have key:∀N,m≤N→((List.range N).filter fun i=> !aq E i).length=N-m:=by
        intro N
        induction N with
        |zero=>intro _;simp
        |succ N ih=>
         intro hN;rw[Si,EB,iK];by_cases h:m≤N
         ·rw[ih h];simp[hb N,Nat.not_lt.2 h];omega
         ·have:m=N+1:=by omega
          have e:(List.range N).filter (fun i=> !aq E i)=[]:=by
           rw[JD];intro i hi;rw[ij i (by have:=bZ.1 hi;omega)];simp
          have hN':aq E N=true:=ij N (by omega);rw[e];simp[hN'];omega
   exact key _ hm
  have ef:(List.range m).filter (aq E)=List.range m:=JE.2 fun i hi=>ij i (bZ.1 hi);rw[ef] at hg;have nH:ux ops E=lE ops (List.range m):=by
   funext t;apply propext;constructor
   ·rintro⟨i,o,h1,h2,h3⟩;exact⟨i,o,bZ.2 (vN i h1),h2,h3⟩
   ·rintro⟨i,o,h1,h2,h3⟩;exact⟨i,o,ij i (bZ.1 h1),h2,h3⟩
  rw[nH] at hg;rw[←hk,afy];exact hK listed a w aA (fun i=>by rw[hl i,hb i]) hn hg
 intro k
 induction k with
 |zero=>
  intro E listed ρ a w hk vN GG aA hl hn hg af;refine SF 0 E listed ρ a w (fun i hi=>?_) hk vN aA hl hn hg af;cases hb:aq E i with
  |true=>rfl
  |false=>
   have:i∈(List.range ops.size).filter fun i=> !aq E i:=ed.2 ⟨bZ.2 (by omega),by rw[hb];rfl⟩;unfold qI at hk;rw[Sc.1 hk] at this;cases this
 |succ k ih=>
  intro E listed ρ a w hk vN GG aA hl hn hg af;by_cases ij:∀i,i<m→aq E i=true
  ·exact SF (k+1) E listed ρ a w ij hk vN aA hl hn hg af
  refine⟨fun he=>?_,fun i hi=>?_⟩
  ·
   obtain⟨i,hi,G5⟩:∃i,(i<m∧aq E i=false)∧∀j,j<i→aq E j=true:=by
        have hex:∃i,i<m∧aq E i=false:=by
         refine w6 fun eI=>ij fun i hi=>?_;cases hb:aq E i with
         |true=>rfl
         |false=>exact absurd ⟨i,hi,hb⟩ eI
        obtain⟨i,hi⟩:=hex
        induction i using Nat.strongRecOn with
        |ind i lZ=>
         by_cases hh:∃j,j<i∧aq E j=false
         ·obtain⟨j,hj,hb⟩:=hh;exact lZ j hj ⟨by omega,hb⟩
         ·refine⟨i,hi,fun j hj=>?_⟩;cases hb:aq E j with
          |true=>rfl
          |false=>exact absurd ⟨j,hj,hb⟩ hh
   have rB:i<ops.size:=by omega
   have ho:ops[i]?=some ops[i]:=dX rB;have cK:i∈lD ops E:=by
        unfold lD;simp only[ed,bZ,aj,hH,ho];refine⟨rB,hi.2,?_⟩;rw[bz];intro e gD;have:=bz.1 (BL i rB _ ho) e gD;cases hb:Region.binds .any e with
        |false=>rfl
        |true=>
         rw[hb] at this;simp only[qN,pJ,ia] at this;rw[G5 _ this];rfl
   rw[←Zf aA hl,he] at cK;cases cK
  ·rw[Zf aA hl] at hi;unfold lD at hi;simp only[ed,bZ,aj,hH] at hi;obtain⟨bl,dB,tj⟩:=hi;have Va:ops[i]?=some ops[i]:=dX bl;generalize ops[i]=o at Va;have ho:=Va;rw[ho] at tj;simp only at tj;have o2:=BL i bl o ho;have yG:∀m,aq ((dH ops ops.size).getD i 0) m=true→aq E m=true:=by
        intro m hm;obtain⟨e,jB,kz,LU⟩:=F2 bl ho o2 hm;have hE:aq E e.on=true:=by
         have:=bz.1 tj e jB
         rwa [kz,qN,pJ] at this
        rcases LU with rfl|LU
        ·exact hE
        ·have oP:e.on<i:=by
          have:=bz.1 o2 e jB;rw[kz] at this;simpa [ia] using this
         exact GG e.on (by omega) hE m LU
   have kB:i<m:=by
        refine w6 fun eI=>ij fun j hj=>?_;exact yG j (yZ i (by omega) bl j (by omega))
   obtain⟨o',dJ,jC⟩:=aD i kB;rw[ho] at dJ;cases dJ;obtain⟨o1,o3⟩:=agO i kB o ho;have cX:((oZ (q.map (·.2)) m).getD i []).all (aq E)=true:=by
        rw[bz] at o1 ⊢;exact fun m hm=>yG m (o1 m hm)
   have afB:sY C (S.withR (fE ops (q.map (·.1)) ((List.range m).filter (aq E)) S.r)) ops o=some ((q.map (·.1)).getD i .none,(q.map (·.2)).getD i []):=by
        rw[←jC];refine adL (S:=S.withR (fE ops (q.map (·.1)) (List.range i) S.r)) fun t ht=>?_;refine ZO Mv (fun j hj=>?_) (fun _ _ _=>rfl);have fc:j<ops.size:=by
         rw[ao] at hj;obtain⟨oj,h1,_⟩:=hj;exact(dy.1 h1).1
        rw[ed,bZ,bZ];rcases o3 t ht j fc hj with⟨h1,h2⟩|h1
        ·exact⟨fun _=>h1,fun _=>⟨by omega,yG j h2⟩⟩
        ·constructor
         ·rintro⟨_,oD⟩;have:=GG j fc oD i h1;rw[dB] at this;cases this
         ·intro eO;exfalso;have key:∀m j,j<ops.size→aq ((dH ops ops.size).getD j 0) m=true→m<j:=by
           intro m j
           induction j using Nat.strongRecOn with
           |ind j lZ=>
            intro hj hm;have qj:ops[j]?=some ops[j]:=dX hj;have p2:=BL j hj _ qj;obtain⟨e,e1,e2,e3⟩:=F2 hj qj p2 hm;have oP:e.on<j:=by
                have:=bz.1 p2 e e1;rw[e2] at this;simpa [ia] using this
            rcases e3 with rfl|e3
            ·exact oP
            ·have:=lZ e.on oP (by omega) e3;omega
          have:=key i j fc h1;omega
   have hcp:=adK afB;rw[Zm kB dB cX,ao] at af;obtain⟨ρ1,hρ1,hρ2⟩:=af;have qf:∀d,o.dst=some d→¬ux ops E d∧d<a.tmps.size:=by
        intro d hd;refine⟨fun⟨i',o',cv,dJ,gC⟩=>?_,?_⟩
        ·have az:i'≠i:=fun e=>by subst e;rw[dB] at cv;cases cv
         exact vj.dst_once be dJ ho gC hd az
        ·have:=bz.1 ax.2 o (by simpa using gJ ho);simp only[hd,aj] at this;rw[hn.size,Mj];simpa [ia] using this.2
   have jF:nM o.op=true:=by
        have:=bz.1 ax.2 o (by simpa using gJ ho);simp only[aj] at this;exact this.1
   have hj:∀j want t,o.guard=some (j,want)→(ops[j]?).bind (·.dst)=some t→ux ops E t:=by
        intro j want t gi ht;rw[ao] at ht;obtain⟨oj,h1,h2⟩:=ht;have tq:=bz.1 fq o (by simpa using gJ ho);simp only[gi] at tq;obtain⟨e,jB,kz⟩:=uT.1 tq;simp only[aj] at kz;have h3:=bz.1 tj e jB;rw[kz.1] at h3;simp only[qN,pJ] at h3;exact⟨j,oj,by rw[←cM kz.2];exact h3,h1,h2⟩
   have afx:∀j,j<ops.size→aq (Nat.lor E (dO i)) j=true→∀m,aq ((dH ops ops.size).getD j 0) m=true→aq (Nat.lor E (dO i)) m=true:=by
        intro j hj oD m hm;rw[iP,gw] at oD;rw[iP,gw];rcases oD with oD|oD
        ·exact .inl (GG j hj oD m hm)
        ·rw[←cM oD] at hm;exact .inl (yG m hm)
   have main:=F3 (rd:=rd) (K:=wpAnyIn (FR rd) 0 C.P .any ops Q k (listed.setIfInBounds i true)) (Q:=Q) hg hC aP hΦ hY jF qf hj hcp hρ1 (fun a' w' fb qm=>by
        have hA:(fun u=>ux ops E u∨o.dst=some u)=ux ops (Nat.lor E (dO i)):=by
         funext u;apply propext;constructor
         ·rintro(⟨i',o',h1,h2,h3⟩|h1)
          ·exact⟨i',o',by rw[iP,h1,w5],h2,h3⟩
          ·exact⟨i,o,by rw[iP,gL,m8],ho,h1⟩
         ·rintro⟨i',o',h1,h2,h3⟩;rw[iP,gw] at h1;rcases h1 with h1|h1
          ·exact .inl ⟨i',o',h1,h2,h3⟩
          ·rw[←cM h1,ho] at h2;cases h2;exact .inr h3
        rw[hA] at fb;have hSt:m4 (S.withR (fE ops (q.map (·.1)) ((List.range m).filter (aq E)) S.r)) o ((q.map (·.1)).getD i .none)=S.withR (fE ops (q.map (·.1)) ((List.range m).filter (aq (Nat.lor E (dO i)))) S.r):=by
         have afW:∀t,(m4 (S.withR (fE ops (q.map (·.1)) ((List.range m).filter (aq E)) S.r)) o ((q.map (·.1)).getD i .none)).r t=fE ops (q.map (·.1)) ((List.range m).filter (aq (Nat.lor E (dO i)))) S.r t:=by
          intro t;by_cases GK:o.dst=some t
          ·have hb:(ops[i]?).bind (·.dst)=some t:=by rw[ho];exact GK
           rw[I9 Mv hb (ed.2 ⟨bZ.2 kB,by rw[iP,gL,m8]⟩)];unfold m4;rw[GK];simp[St.setR,aG]
          ·have e1:(m4 (S.withR (fE ops (q.map (·.1)) ((List.range m).filter (aq E)) S.r)) o ((q.map (·.1)).getD i .none)).r t=fE ops (q.map (·.1)) ((List.range m).filter (aq E)) S.r t:=by
            unfold m4;split
            ·rename_i d hd;exact bf _ _ (fun e=>GK (by rw[hd,e]))
            ·rfl
           rw[e1];refine ZO Mv (fun j hj=>?_) (fun _ _ _=>rfl);have eO:¬i=j:=fun e=>by subst e;rw[ho] at hj;exact GK hj
           rw[ed,ed,iP,eX eO,sw]
         have:∀(X Y:St),X.o=Y.o→X.ver=Y.ver→(∀t,X.r t=Y.r t)→X=Y:=by
          intro X Y h1 h2 h3;cases X;cases Y;simp only at h1 h2 h3;subst h1 h2
          congr 1
          exact funext h3
         refine this _ _ ?_ ?_ afW
         ·unfold m4;split<;>rfl
         ·unfold m4;split<;>rfl
        rw[hSt] at fb;refine ih _ _ ρ1 a' w' (by have:=an4 bl dB;omega) (fun j hj=>by rw[iP,gw] at hj;rcases hj with hj|hj;exact vN j hj;rw[←cM hj];exact kB) afx (by simpa using aA) (fun j=>?_) (hn.trans (qm.mono fun t e=>⟨o,by simpa using gJ ho,e⟩)) fb hρ2;rw[iP];simp only[ej,uM];by_cases cq:i=j
        ·subst cq;simp[aA,bl]
        ·rw[if_neg cq,eX cq,sw,←hl j];simp only[ej])
   simp only[wpOpIn,ho];split
   ·rename_i hw;rw[if_pos hw] at main;exact main
   ·rename_i hw;rw[if_neg hw] at main;exact⟨fun _ _=>trivial,main⟩
theorem amd {rd:Option Nat}(hC:CtxOK C σ0)(aP:dY C)(hΦ:dF C Φ)(hY:pP C Φ w0 σ0){ops:Array Oper}(ax:qB n ops=true)(fq:yx ops=true)(BL:(List.range ops.size).all (Gf ops)=true){m:Nat}
 (yZ:∀i,m≤i→i<ops.size→∀j,j<i→aq ((dH ops ops.size).getD i 0) j=true) {Q:Exit→Act→World→Prop} {ρ':Env}:
 ∀(k i:Nat) {S:St} {ρ:Env} {a:Act} {w:World} {r:St×List PI} (listed:Array Bool),i+k=ops.size→m≤i→listed.size=ops.size→(∀j,listed.getD j false=decide (j<i))→a.tmps.size=n→
  Good C w0 σ0 S ρ (lE ops (List.range i)) a w→nm C ops (List.range' i k) S=some r→PI.runs Φ r.2 ρ=some ρ'→
  (∀a' w',SameBut (pY ops) a a'→Good C w0 σ0 r.1 ρ' (lE ops (List.range ops.size)) a' w'→Q .normal a' w')→wpAnyIn (FR rd) 0 C.P .any ops Q k listed a w:=by
 have Hd:=ax;simp only[qB,aj] at ax;have be:=l8 ax.1
 have JW:∀i,i<ops.size→∀o,ops[i]?=some o→(o.after.toList.all fun e=> !Region.binds .any e||Nat.blt e.on i)=true:=by
  intro i hi o ho;have:=bz.1 BL i (bZ.2 hi);unfold Gf at this;rw[ho] at this;exact this
 have mem:∀(listed:Array Bool) (i j:Nat),listed.size=ops.size→(∀j,listed.getD j false=decide (j<i))→(j∈Region.ready .any ops listed↔(j<ops.size∧¬j<i∧∀o,ops[j]?=some o→(o.after.toList.all fun e=> !Region.binds .any e||decide (e.on<i))=true)):=by
  intro listed i j aA hl;unfold Region.ready;simp only[ed,bZ];refine and_congr_right fun hj=>?_;have h1:listed.getD j true=decide (j<i):=by
   rw[←hl j];simp only[ej];rw[dX (by omega)];rfl
  have h2:ops[j]?=some ops[j]:=dX hj;rw[h1,h2];simp only[kg,mD,←RQ,hl,aj,hH,decide_eq_false_iff_not,aO,forall_eq']
 intro k
 induction k with
 |zero=>
  intro i S ρ a w r listed B5 hmi aA hl hn hg hr af hQ;simp only[List.range'_zero,nm,aO] at hr;subst hr;rw[m0 af] at hQ;refine⟨?_,hQ a w (.refl _ _) ?_⟩
  ·rw[R5];intro j hj;rw[mem listed i j aA hl] at hj;exact hj.2.1 (by omega)
  ·have:i=ops.size:=by omega
   rw[←this];exact hg
 |succ k ih=>
  intro i S ρ a w r listed B5 hmi aA hl hn hg hr af hQ;have bl:i<ops.size:=by omega
  have ho:ops[i]?=some ops[i]:=dX bl;generalize ops[i]=o at ho;refine⟨fun he=>?_,fun i' cv=>?_⟩
  ·have:i∈Region.ready .any ops listed:=by
        rw[mem listed i i aA hl];refine⟨bl,by omega,fun o' dJ=>?_⟩;rw[bz];intro e gD;have:=bz.1 (JW i bl o' dJ) e gD;cases hb:Region.binds .any e with
        |false=>rfl
        |true=>
         rw[hb] at this;simp only[qN,pJ,ia] at this;simpa using this
   rw[he] at this;cases this
  ·rw[mem listed i i' aA hl] at cv;obtain⟨h1,h2,h3⟩:=cv;obtain rfl:i'=i:=by
        refine w6 fun az=>?_;have dJ:ops[i']?=some ops[i']:=dX h1;have yG:=yZ i' (by omega) h1 i (by omega);have ae:∀m j,j<ops.size→aq ((dH ops ops.size).getD j 0) m=true→m<j:=by
         intro m j
         induction j using Nat.strongRecOn with
         |ind j lZ=>
          intro hj hm;have qj:ops[j]?=some ops[j]:=dX hj;have p2:=JW j hj _ qj;obtain⟨e,e1,e2,e3⟩:=F2 hj qj p2 hm;have oP:e.on<j:=by
           have:=bz.1 p2 e e1;rw[e2] at this;simpa [ia] using this
          rcases e3 with rfl|e3
          ·exact oP
          ·have:=lZ e.on oP (by omega) e3;omega
        obtain⟨e,e1,e2,e3⟩:=F2 h1 dJ (JW i' h1 _ dJ) yG;have h4:=bz.1 (h3 _ dJ) e e1;rw[e2] at h4;simp only[qN,pJ,decide_eq_true_eq] at h4;rcases e3 with e3|e3
        ·omega
        ·have:=ae i e.on (by omega) e3;omega
   rw[EG] at hr;simp only[nm,ho] at hr;simp only[ao,av] at hr;obtain⟨r1,iw,q,hq,rfl⟩:=hr;simp only[nW,ao] at af;obtain⟨ρ1,hρ1,hρ2⟩:=af;have qf:∀d,o.dst=some d→¬lE ops (List.range i') d∧d<a.tmps.size:=by
        intro d hd;refine⟨fun⟨i2,o2,GQ,gP,eg⟩=>?_,?_⟩
        ·have az:i2≠i':=by have:=bZ.1 GQ;omega
         exact vj.dst_once be gP ho eg hd az
        ·have:=bz.1 ax.2 o (by simpa using gJ ho);simp only[hd,aj] at this;rw[hn];simpa [ia] using this.2
   have jF:nM o.op=true:=by
        have:=bz.1 ax.2 o (by simpa using gJ ho);simp only[aj] at this;exact this.1
   have hj:∀j want t,o.guard=some (j,want)→(ops[j]?).bind (·.dst)=some t→lE ops (List.range i') t:=by
        intro j want t gi ht;rw[ao] at ht;obtain⟨oj,h1,h2⟩:=ht;have tq:=bz.1 fq o (by simpa using gJ ho);simp only[gi] at tq;obtain⟨e,jB,kz⟩:=uT.1 tq;simp only[aj] at kz;have h4:=bz.1 (h3 o ho) e jB;rw[kz.1] at h4;simp only[qN,pJ,decide_eq_true_eq] at h4;exact⟨j,oj,bZ.2 (by rw[←cM kz.2];exact h4),h1,h2⟩
   have main:=F3 (rd:=rd) (K:=wpAnyIn (FR rd) 0 C.P .any ops Q k (listed.setIfInBounds i' true)) (Q:=Q) hg hC aP hΦ hY jF qf hj iw hρ1 (fun a' w' fb jb=>by
        have:(fun u=>lE ops (List.range i') u∨o.dst=some u)=lE ops (List.range (i'+1)):=by
         funext u;apply propext;constructor
         ·rintro(⟨i2,o2,h1,h2,h3⟩|h1)
          ·exact⟨i2,o2,bZ.2 (by have:=bZ.1 h1;omega),h2,h3⟩
          ·exact⟨i',o,bZ.2 (by omega),ho,h1⟩
         ·rintro⟨i2,o2,g1,g2,g3⟩;by_cases e:i2=i'
          ·rw[e,ho] at g2;cases g2;exact .inr g3
          ·exact .inl ⟨i2,o2,bZ.2 (by have:=bZ.1 g1;omega),g2,g3⟩
        rw[this] at fb;refine ih (i'+1) _ (by omega) (by omega) (by simpa using aA) (fun j=>?_) (jb.size.trans hn) fb hq hρ2 (fun a2 w2 s2 g2=>hQ a2 w2 ((jb.mono fun t e=>⟨o,by simpa using gJ ho,e⟩).trans s2) g2);simp only[ej,uM];by_cases cq:i'=j
        ·subst cq;simp[aA,bl]
        ·rw[if_neg cq];have:=hl j;simp only[ej] at this;rw[this];by_cases ae:j<i'
         ·rw[decide_eq_true ae,decide_eq_true (by omega:j<i'+1)]
         ·rw[decide_eq_false ae,decide_eq_false (by omega:¬j<i'+1)])
   simp only[wpOpIn,ho];split
   ·rename_i hw;rw[if_pos hw] at main;exact main
   ·rename_i hw;rw[if_neg hw] at main;exact⟨fun _ _=>trivial,main⟩
end
def IX (C:Ctx)(n:Nat)(ids:List Nat)(ops:Array Oper)(draw:Bool)(S:Snap):Option (Snap×List PI):=
 bif qB n ops then
    bif draw then
     bif yx ops&&ND ops&&C.P.follows .mixedOrders then
        match TU C ops (S.st ids) with
        |some r=>some (⟨uA (fg r.1) r.1 S.rs (ops.toList.filterMap (·.dst)),ids.map fun j=>gV r.1 (r.1.o j)⟩,r.2)
        |none=>
        (m3 C ops (List.range ops.size) (S.st ids)).bind fun X=>BO X fun X=>BO (oZ X ops.size) fun nc=>
         (Snap.hard ⟨S.rs.map fun s=>kJ (S.st ids) (cH s),ids.map fun j=>gV (S.st ids) ((S.st ids).o j)⟩ fun T0=>Ea ops (qY C.P ops) (N9 C ops n ids X nc) ops.size [(0,T0)]).map fun T=>(⟨T.rs.map (fg (T.stO ids)),ids.map fun j=>gV (T.stO ids) ((T.stO ids).o j)⟩,X.flatten)
     else none
    else bif T8 ops then(nm C ops (List.range ops.size) (S.st ids)).map fun r=>(⟨uA (fg r.1) r.1 S.rs (ops.toList.filterMap (·.dst)),ids.map fun j=>gV r.1 (r.1.o j)⟩,r.2) else none
 else none
def IW (C:Ctx)(n:Nat)(ids:List Nat)(ops:Array Oper)(draw:Bool)(S:Snap):Option (Snap×List PI):=
 (IX C n ids ops draw S).bind fun r=>r.1.hard fun T=>some (T,r.2)
theorem alj (C:Ctx)(n:Nat)(ids:List Nat)(ops:Array Oper)(draw:Bool)(S:Snap):IW C n ids ops draw S=IX C n ids ops draw S:=by
 unfold IW;cases IX C n ids ops draw S with
 |none=>rfl
 |some r=>rw[jQ,Snap.hard_eq]
def wQ (ops:Array Oper)(E:Nat):Nat→Prop:=fun t=>∃i o,aq E i=true∧ops[i]?=some o∧o.dst=some t
section
variable {C:Ctx} {S:St} {ρ:Env} {σ:Im} {own:Nat→Option Nat} {hv:Nat→Value} {w0:World} {σ0:Base} {A:Nat→Prop} {a:Act} {w:World} {n:Nat} {ids:List Nat} {Φ:aR}
theorem IU {ops:Array Oper}{listed:Array Bool}{E:Nat}(aA:listed.size=ops.size)(hl:∀i,listed.getD i false=aq E i)(i:Nat):i∈Region.ready .any ops listed↔i∈lD ops E:=by
 unfold Region.ready lD;simp only[ed,bZ];refine and_congr_right fun hi=>?_;have h1:listed.getD i true=aq E i:=by
  rw[←hl i];simp only[ej];rw[dX (by omega)];rfl
 have h2:ops[i]?=some ops[i]:=dX hi;rw[h1,h2];simp only[kg,mD,←RQ,hl]
theorem alL {rd:Option Nat}(hC:CtxOK C σ0)(aP:dY C)(hΦ:dF C Φ)(hY:pP C Φ w0 σ0){a0:Act}(Mj:a0.tmps.size=n){ops:Array Oper}(ax:qB n ops=true)(fq:yx ops=true){X:List (List PI)}{Q:Exit→Act→World→Prop}{ρ':Env}(yX:ND ops=true)(hQp:∀c a w,¬Q (.panic c) a w):
 ∀(k:Nat) {L:List (Nat×Snap)} {T:Snap},Ea ops (qY C.P ops) (N9 C ops n ids X (oZ X ops.size)) k L=some T→
  (∀a' w',SameBut (pY ops) a0 a'→Good C w0 σ0 (T.stO ids) ρ' (fun t=>∃E,wQ ops E t) a' w'→Q .normal a' w')→
  ∀(E:Nat) (U:Snap),(E,U)∈L→∀(listed:Array Bool) (ρ:Env) (a:Act) (w:World),listed.size=ops.size→(∀i,listed.getD i false=aq E i)→SameBut (pY ops) a0 a→
   Good C w0 σ0 (U.stO ids) ρ (wQ ops E) a w→PI.runs Φ (eL X (List.range ops.size) E) ρ=some ρ'→wpAnyIn (FR rd) 0 C.P .any ops Q k listed a w:=by
 simp only[qB,aj] at ax;have be:=l8 ax.1;intro k
 induction k with
 |zero=>
  intro L T hs hQ E U hm listed ρ a w aA hl hn hg af;simp only[Ea] at hs;split at hs
  case h_2=>cases hs
  rename_i x;cases aD:(List.range ops.size).all (aq x.1)<;>simp only[aD,cond_true,cond_false] at hs
  ·cases hs
  cases hs;simp only[na] at hm;subst hm;simp only at aD hg hQ af hl;have ij:=bz.1 aD;have LV:eL X (List.range ops.size) E=[]:=by
   unfold eL;rw[aaC];intro i hi;rw[ij i hi];rfl
  rw[LV] at af;simp only[PI.runs,aO] at af;subst af;refine⟨?_,hQ a w hn ?_⟩
  ·rw[R5];intro i hi;rw[IU aA hl] at hi;unfold lD at hi;simp only[ed,aj,hH] at hi;rw[ij i hi.1] at hi;cases hi.2.1
  ·obtain⟨σ,own,hv,h⟩:=hg;exact⟨σ,own,hv,h.defers,h.ok,h.le,h.old,h.newc,h.newm,h.below,h.bw,h.owns,h.regs,h.objs,fun t gs s e=>⟨fun g hm=>⟨E,(h.opts t gs s e).1 g hm⟩,(h.opts t gs s e).2⟩,h.frame⟩
 |succ k ih=>
  intro L T hs hQ E U hm listed ρ a w aA hl hn hg af;simp only[Ea,ao] at hs;obtain⟨L',hL,hs⟩:=hs;obtain⟨_,cK⟩:=V1 hL;obtain⟨az,MQ⟩:=cK _ hm;have agA:lD ops E≠[]:=fun e=>az (by unfold oo;rw[e];rfl)
  have bI:∀i,i∈oo ops (qY C.P ops) E→i∈lD ops E:=fun i hi=>by
   unfold oo at hi;split at hi
   ·rename_i i' hp;rw[na.1 hi];exact(Jf hp).1
   ·exact hi
  have step:∀i,i∈oo ops (qY C.P ops) E→∀Q':Exit→Act→World→Prop,wpOpIn (FR rd) 0 C.P ops Q' i (wpAnyIn (FR rd) 0 C.P .any ops Q k (listed.setIfInBounds i true)) a w:=by
   intro i hi Q';obtain⟨y,hy,hyL⟩:=MQ i hi;have hi:=bI i hi;unfold lD at hi;simp only[ed,bZ,aj,hH] at hi;obtain⟨bl,dB,tj⟩:=hi;simp only[N9] at hy;split at hy
   case h_2=>cases hy
   rename_i o ho;simp only[ao] at hy;obtain⟨r,hr,hy⟩:=hy;cases hc:(PI.beqs r.2 (X.getD i [])&&((oZ X ops.size).getD i []).all (aq E))<;>simp only[hc,cond_true,cond_false] at hy
   ·cases hy
   cases hy;simp only[aj] at hc;have hX:=PI.beqs_eq _ _ hc.1;rw[Zm bl dB hc.2,ao] at af;obtain⟨ρ1,hρ1,hρ2⟩:=af;rw[←hX] at hρ1;rw[ho] at tj;simp only at tj;have qf:∀d,o.dst=some d→¬wQ ops E d∧d<a.tmps.size:=by
        intro d hd;refine⟨fun⟨i',o',cv,dJ,gC⟩=>?_,?_⟩
        ·have az:i'≠i:=fun e=>by subst e;rw[dB] at cv;cases cv
         exact vj.dst_once be dJ ho gC hd az
        ·have:=bz.1 ax.2 o (by simpa using gJ ho);simp only[hd,aj] at this;rw[hn.size,Mj];simpa [ia] using this.2
   have jF:nM o.op=true:=by
        have:=bz.1 ax.2 o (by simpa using gJ ho);simp only[aj] at this;exact this.1
   have hj:∀j want t,o.guard=some (j,want)→(ops[j]?).bind (·.dst)=some t→wQ ops E t:=by
        intro j want t gi ht;rw[ao] at ht;obtain⟨oj,h1,h2⟩:=ht;have tq:=bz.1 fq o (by simpa using gJ ho);simp only[gi] at tq;obtain⟨e,jB,kz⟩:=uT.1 tq;simp only[aj] at kz;have h3:=bz.1 tj e jB;rw[kz.1] at h3;simp only[qN,pJ] at h3;exact⟨j,oj,by rw[←cM kz.2];exact h3,h1,h2⟩
   have main:=F3 (rd:=rd) (K:=wpAnyIn (FR rd) 0 C.P .any ops Q k (listed.setIfInBounds i true)) (Q:=Q') hg hC aP hΦ hY jF qf hj hr hρ1 (fun a' w' fb qm=>by
        have hA:(fun u=>wQ ops E u∨o.dst=some u)=wQ ops (Nat.lor E (dO i)):=by
         funext u;apply propext;constructor
         ·rintro(⟨i',o',h1,h2,h3⟩|h1)
          ·exact⟨i',o',by rw[iP,h1,w5],h2,h3⟩
          ·exact⟨i,o,by rw[iP,gL,m8],ho,h1⟩
         ·rintro⟨i',o',h1,h2,h3⟩;rw[iP,gw] at h1;rcases h1 with h1|h1
          ·exact .inl ⟨i',o',h1,h2,h3⟩
          ·rw[←cM h1,ho] at h2;cases h2;exact .inr h3
        rw[hA] at fb
        refine ih hs hQ _ _ hyL _ ρ1 a' w' (by simpa using aA) (fun j=>?_) (hn.trans (qm.mono fun t e=>⟨o,by simpa using gJ ho,e⟩)) (by
         have:=fb.snapO U.rs.length ids
         rw[show r.1.snapO U.rs.length ids=⟨uA (kJ r.1) r.1 U.rs o.dst.toList,ids.map fun j=>gV r.1 (r.1.o j)⟩ from by
          unfold St.snapO;rw[Ef fun t ht=>?_];rw[Th hr t (fun e=>ht (by rw[e];simp))];rfl] at this
         exact this) hρ2
        rw[iP];simp only[ej,uM];by_cases cq:i=j
        ·subst cq;simp[aA,bl]
        ·rw[if_neg cq,eX cq,sw,←hl j];simp only[ej])
   simp only[wpOpIn,ho];split
   ·rename_i hw;rw[if_pos hw] at main;exact main
   ·rename_i hw;rw[if_neg hw] at main;exact⟨fun _ _=>trivial,main⟩
  cases MA:Ae (qY C.P ops) E (lD ops E) with
  |none=>
   have lR:oo ops (qY C.P ops) E=lD ops E:=by unfold oo;rw[MA]
   refine⟨fun he=>?_,fun i hi=>step i (by rw[lR];exact(IU aA hl i).1 hi) Q⟩;exfalso;refine agA ?_;rw[R5];intro i hi;rw[←IU aA hl,he] at hi;cases hi
  |some i=>
   have lR:oo ops (qY C.P ops) E=[i]:=by unfold oo;rw[MA]
   obtain⟨hir,b,hb,afs⟩:=Jf MA;obtain⟨oi,Vb,MC,LH⟩:=abr hb;obtain⟨v,hv,hK⟩:=akI Vb MC (step i (by rw[lR];simp) _);refine aor (fun j o ho=>?_) Vb (fun j o cs b' ho e=>?_) (fun c a' w' h=>(hQp _ _ _ h).elim) k listed a w (fun j oj hj eO mP eI=>LH j oj hj eO (fun GV=>?_) eI) ((IU aA hl i).2 hir) hv hK
   ·have:=bz.1 ax.2 o (by simpa using gJ ho);simp only[aj] at this;exact this.1
   ·have:=bz.1 yX o (by simpa using gJ ho);rw[e] at this;cases this
   ·have h1:=bz.1 afs j GV;have h2:=hl j;rw[h1] at h2;simp only[ej] at h2 mP;cases yM:listed[j]? with
    |none=>rw[yM] at h2;cases h2
    |some x=>
     rw[yM] at h2 mP;simp only[mD] at h2 mP;rw[h2] at mP;cases mP
theorem ZE {ops:Array Oper}:∀{l:List Nat} {S:St} {X:List (List PI)},m3 C ops l S=some X→X.length=l.length
 |[],S,X,h=>by simp only[m3,aO] at h;subst h;rfl
 |i::l,S,X,h=>by
  simp only[m3] at h;split at h
  case h_2=>cases h
  simp only[ao,av] at h;obtain⟨r,_,q,hq,rfl⟩:=h;simp[ZE hq]
theorem Zn (X:List (List PI)):eL X (List.range X.length) 0=X.flatten:=by
 have h0:∀i,aq 0 i=false:=fun i=>by rw[q6];simp
 have key:∀(Y Z:List (List PI)),eL (Y++Z) (List.range' Y.length Z.length) 0=Z.flatten:=by
  intro Y Z
  induction Z generalizing Y with
  |nil=>rfl
  |cons z Z ih=>
   have:=ih (Y++[z]);simp only[jq,List.singleton_append,iK,og,Au,eW] at this;rw[og,EG];have e:eL (Y++z::Z) (Y.length::List.range' (Y.length+1) Z.length) 0=(Y++z::Z).getD Y.length []++eL (Y++z::Z) (List.range' (Y.length+1) Z.length) 0:=by
        unfold eL;rw[qO,h0];rfl
   rw[e,this,Sa]
   congr 1
   simp[aF]
 have:=key [] X;simp only[qT,Au] at this;rw[JO];exact this
theorem alk (aP:dY C)(hΦ:dF C Φ):JS C n ids Φ (IW C n ids):=by
 intro id ops draw S r hr rd w0 σ0 ρ ρ' a w Q hC hY hn hg af hQ;rw[alj] at hr;unfold IX at hr;cases ax:qB n ops<;>simp only[ax,cond_true,cond_false] at hr
 ·cases hr
 cases draw with
 |false=>
  simp only[cond_false] at hr;cases UO:T8 ops<;>simp only[UO,cond_true,cond_false] at hr
  ·cases hr
  simp only[av] at hr;obtain⟨q,hq,rfl⟩:=hr;refine wpIn_region ?_
  have nH:lE ops []=fun _=>False:=by
   funext t;apply propext;constructor
   ·rintro⟨i,o,h,_⟩;cases h
   ·intro h;exact h.elim
  refine vj hC aP hΦ hY ax (List.range ops.size) [] (by simpa using JN) (fun p i q o j want hl ho gi=>?_) hn (by rw[nH];exact hg) hq af (fun a' w' iX fb=>hQ a' w' iX (by
   have:=fb.snapF S.rs.length ids
   rw[show q.1.snap S.rs.length ids=⟨uA (fg q.1) q.1 S.rs (ops.toList.filterMap (·.dst)),ids.map fun j=>gV q.1 (q.1.o j)⟩ from by
        unfold St.snap;rw[Ef fun t ht=>?_];rw[KM hq t (fun i o hi ho e=>ht (sE.2 ⟨o,by simpa using gJ ho,e⟩))];show _=fg q.1 (cH (S.rs.getD t .none));cases S.rs.getD t .none<;>rfl] at this
   exact this))
  have hi:i<ops.size:=by
   have:i∈List.range ops.size:=by rw[hl];simp
   exact bZ.1 this
  have hb:=bz.1 UO i (bZ.2 hi);rw[ho] at hb;simp only[gi,ia] at hb;have hp:=List.pairwise_lt_range (n:=ops.size);have tu:j∈List.range ops.size:=bZ.2 (by omega);rw[hl,Sf] at hp;obtain⟨_,fw,_⟩:=hp;rw[Sg] at fw;rw[hl,de] at tu;simp only[qT];rcases tu with hm|hm
  ·exact hm
  ·rcases df.1 hm with e|hm
   ·omega
   ·have:=fw.1 j hm;omega
 |true=>
  simp only[cond_true] at hr;cases fq:(yx ops&&ND ops&&C.P.follows .mixedOrders)<;>simp only[fq,cond_true,cond_false] at hr
  ·cases hr
  simp only[aj] at fq;have yX:=fq.1.2
  replace fq:yx ops=true∧C.P.follows .mixedOrders=true:=⟨fq.1.1,fq.2⟩
  have h0:∀i,aq 0 i=false:=fun i=>by rw[q6];simp
  split at hr
  case h_1=>
   rename_i r jC;cases hr;generalize Hl:nY (dH ops ops.size) ops.size=m at*;unfold TU at jC;rw[Hl] at jC;have agx:m≤ops.size:=Hl▸ZX _ _;have yZ:∀i,m≤i→i<ops.size→∀j,j<i→aq ((dH ops ops.size).getD i 0) j=true:=Hl▸ZW _ _;rw[ao] at jC;obtain⟨q,hq,jC⟩:=jC;cases tz:Bz ops (oZ (q.map (·.2)) m) (dH ops ops.size) m<;>simp only[tz,cond_true,cond_false] at jC
   ·cases jC
   rw[av] at jC;obtain⟨r1,iw,rfl⟩:=jC;refine wpIn_region_any fq.2 ?_
   have nH:ux ops 0=fun _=>False:=by
        funext t;apply propext;constructor
        ·rintro⟨i,o,h,_⟩;rw[h0] at h;cases h
        ·intro h;exact h.elim
   have hlen:(q.map (·.2)).length=m:=by rw[fl];exact(Lh hq).1
   have ahw:qI ops 0=ops.size:=by
        unfold qI;have:((List.range ops.size).filter fun i=> !aq 0 i)=List.range ops.size:=JE.2 fun i _=>by rw[h0];rfl
        rw[this,EE]
   have BY:(List.range m).filter (aq 0)=[]:=JD.2 fun i _=>by rw[h0];simp
   simp only[nW,ao] at af;obtain⟨ρ1,hρ1,hρ2⟩:=af;have Mx:=tz;unfold Bz at Mx;rw[aj] at Mx;refine adN (w0:=w0) (S:=S.st ids) hC aP hΦ hY hn ax fq.1 agx hq tz yZ (ρ':=ρ1) (fun listed a' w' aA hl iX fb=>?_) ops.size 0 _ ρ a _ ahw (fun j hj=>by rw[h0] at hj;cases hj) (fun j _ hj=>by rw[h0] at hj;cases hj) (by simp) (fun i=>?_) (.refl _ _) ?_ ?_
   ·refine amd hC aP hΦ hY ax fq.1 Mx.2 yZ (ops.size-m) m listed (by omega) (aU _) aA hl (iX.size.trans hn) fb iw hρ2 (fun a2 w2 s2 g2=>hQ a2 w2 (iX.trans s2) (by
     have:=g2.snapF S.rs.length ids
     rw[show r1.1.snap S.rs.length ids=⟨uA (fg r1.1) r1.1 S.rs (ops.toList.filterMap (·.dst)),ids.map fun j=>gV r1.1 (r1.1.o j)⟩ from by
      unfold St.snap;rw[Ef fun t ht=>?_];rw[KM iw t (fun i o hi ho e=>ht (sE.2 ⟨o,by simpa using gJ ho,e⟩))]
      have e1:fE ops (q.map (·.1)) (List.range m) (S.st ids).r t=(S.st ids).r t:=Ed fun i hi e=>by
        rw[ao] at e;obtain⟨o,ho,hd⟩:=e;exact ht (sE.2 ⟨o,by simpa using gJ ho,hd⟩)
      show fg _ (S.rs.getD t .none)=fg _ (fE ops (q.map (·.1)) (List.range m) (S.st ids).r t);rw[e1];show _=fg _ (cH (S.rs.getD t .none));cases S.rs.getD t .none<;>rfl] at this
     exact this))
   ·rw[h0];simp only[ej,aao];split<;>rfl
   ·rw[nH,BY];exact hg.drew
   ·rw[←hlen,Zn];exact hρ1
  simp only[Ur,Snap.hard_eq,ao,av] at hr;obtain⟨X,hX,T,hT,rfl⟩:=hr;refine wpIn_mono (Q:=fun e a w=>(∀c,e≠.panic c)∧Q e a w) ?_ fun e a w h=>h.2;refine wpIn_region_any fq.2 ?_
  have nH:wQ ops 0=fun _=>False:=by
   funext t;apply propext;constructor
   ·rintro⟨i,o,h,_⟩;rw[h0] at h;cases h
   ·intro h;exact h.elim
  have hlen:=ZE hX;rw[EE] at hlen
  refine alL (w0:=w0) hC aP hΦ hY hn ax fq.1 (ρ':=ρ') yX (fun c a w h=>h.1 c rfl) ops.size hT (fun a' w' iX fb=>⟨fun c e=>(by cases e),hQ a' w' iX (by
   have:=fb.snapF T.rs.length ids
   rw[show(T.stO ids).snap T.rs.length ids=⟨T.rs.map (fg (T.stO ids)),ids.map fun j=>gV (T.stO ids) ((T.stO ids).o j)⟩ from by
        unfold St.snap;have:=Ef (g:=fg (T.stO ids)) (S:=T.stO ids) (rs:=T.rs) (ds:=[]) (fun t _=>rfl);rw[←this];rfl] at this
   exact this)⟩) 0 _ (na.2 rfl) _ ρ a _ (by simp) (fun i=>?_) (.refl _ _) ?_ ?_
  ·rw[h0];simp only[ej,aao];split<;>rfl
  ·rw[nH];have:=(hg.drew).snapO S.rs.length ids
   rw[show(S.st ids).snapO S.rs.length ids=⟨S.rs.map fun s=>kJ (S.st ids) (cH s),ids.map fun j=>gV (S.st ids) ((S.st ids).o j)⟩ from by
        unfold St.snapO
        have:=Ef (g:=fun s=>kJ (S.st ids) (cH s)) (S:=S.st ids) (rs:=S.rs) (ds:=[]) (fun t _=>by
         show kJ _ (cH (S.rs.getD t .none))=kJ _ (cH (cH (S.rs.getD t .none)));cases S.rs.getD t .none<;>rfl)
        have h2:(fun t=>kJ (S.st ids) (cH ((S.st ids).r t)))=fun t=>kJ (S.st ids) ((S.st ids).r t):=by
         funext t;show kJ _ (cH (cH (S.rs.getD t .none)))=kJ _ (cH (S.rs.getD t .none));cases S.rs.getD t .none<;>rfl
        rw[h2] at this;rw[←this];rfl] at this
   exact this
  ·rw[←hlen,Zn];exact af
end
end Cx
