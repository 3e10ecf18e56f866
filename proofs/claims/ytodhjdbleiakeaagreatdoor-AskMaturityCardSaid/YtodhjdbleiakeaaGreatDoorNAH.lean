/-
  Regions: in the order of the text, and in every order that their edges allow.
-/
import Derived.Test.YtodhjdbleiakeaaGreatDoorNAG
import Derived.OrdersIn
set_option linter.unusedSimpArgs false
set_option linter.unusedVariables false
namespace Cx
open Go Go.RowKit
def kA (S:St):Sh→Sh
 |.opt gs s=>.opt gs (fc S s)
 |s=>fc S s
def St.snapO (n:Nat)(ids:List Nat)(S:St):Snap:=⟨(List.range n).map fun t=>kA S (S.r t),ids.map fun j=>gR S (S.o j)⟩
def Snap.stO (ids:List Nat)(s:Snap):St:=⟨fun t=>s.rs.getD t .none,fun j=>dh ids s.os j,fun _=>0⟩
theorem rW (S:St)(s:Sh):∀gs s',fc S s≠.opt gs s':=by
 intro gs s' e;cases s<;>simp only[fc] at e<;>first|cases e|(revert e;cases Nat.beq _ _<;>intro e<;>cases e)|(revert e;cases List.all _ _<;>intro e<;>cases e)
section
variable {C:Ctx} {S:St} {ρ:Env} {σ:Im} {own:Nat→Option Nat} {hv:Nat→Value} {w0:World} {σ0:Base} {A:Nat→Prop} {a:Act} {w:World} {n:Nat} {ids:List Nat} {Φ:aT}
theorem ayJ {s:Sh}{v:Value}{d:D}(h:aQ C S ρ σ hv s v d){T:St}(hT:T.ver=fun _=>0):aQ C T ρ σ hv (kA S s) v d:=by
 have hc:Compat S.norm hv T hv:=⟨fun j=>by rw[hT];exact oA _,fun _ _=>rfl⟩
 have key:∀s,aQ C S ρ σ hv s v d→aQ C T ρ σ hv (fc S s) v d:=fun s hs=>aQ.mono' (.refl σ) hc (rW S s) (I1 hs).1;cases s with
 |opt gs s=>exact⟨fun hh=>key s (h.1 hh),h.2⟩
 |_=>exact key _ h
theorem Good.snapO (h:Good C w0 σ0 S ρ A a w)(n:Nat)(ids:List Nat):Good C w0 σ0 ((S.snapO n ids).stO ids) ρ A a w:=by
 obtain⟨σ,own,hv,h⟩:=h;have h1:=h.norm;have hc:Compat S.norm hv ((S.snapO n ids).stO ids) hv:=⟨fun _=>bk _,fun _ _=>rfl⟩
 refine⟨σ,own,hv,h.defers,h.ok,h.le,h.old,h.newc,h.newm,h.below,h.bw,h.owns,fun t=>?_,fun j=>?_,fun t gs s e=>?_,?_⟩
 rotate_right
 ·obtain⟨t,fx,cx,f1,f5⟩:=h.frame;refine⟨t,fx,cx,f1,fun j hj=>f5 j ?_⟩;exact vX (fun j=>gR S (S.o j)) (fun ob=>ob=.tr→S.o j=.tr) (fun e=>by cases e) j aeh ids hj
 ·show aQ C _ ρ σ hv (((List.range n).map fun t=>kA S (S.r t)).getD t .none) _ _;rw[aS,cU];by_cases ht:t<n
  ·rw[pR ht];exact ayJ (h.regs t) rfl
  ·rw[q9 (by simpa using ht)];trivial
 ·have ho:=(h1.objs j).mono (.refl σ) hc (w:=w) (w':=w) rfl rfl (fun k hk=>⟨hk,rfl⟩);exact vX (fun j=>gR S (S.o j)) (fun ob=>cl C _ ρ σ own hv w w0.heap.size j ob) trivial j ho ids
 ·change ((List.range n).map fun t=>kA S (S.r t)).getD t .none=.opt gs s at e;rw[aS,cU] at e;by_cases ht:t<n
  ·rw[pR ht] at e;simp only[jF,jE] at e;cases hs:S.r t with
   |opt bM s'=>
    rw[hs] at e;simp only[kA,Sh.opt.injEq] at e;obtain⟨rfl,rfl⟩:=e;exact⟨(h.opts t bM s' hs).1,rW S s'⟩
   |none=>rw[hs] at e;exact absurd e (rW S .none gs s)
   |yv=>rw[hs] at e;exact absurd e (rW S .yv gs s)
   |fclo f c=>rw[hs] at e;exact absurd e (rW S (.fclo f c) gs s)
   |dat t=>rw[hs] at e;exact absurd e (rW S (.dat t) gs s)
   |obj t u=>rw[hs] at e;exact absurd e (rW S (.obj t u) gs s)
   |ptr t u v=>rw[hs] at e;exact absurd e (rW S (.ptr t u v) gs s)
   |eptr t u v x=>rw[hs] at e;exact absurd e (rW S (.eptr t u v x) gs s)
  ·rw[q9 (by simpa using ht)] at e;cases e
theorem Good.snapF (h:Good C w0 σ0 S ρ A a w)(n:Nat)(ids:List Nat):Good C w0 σ0 ((S.snap n ids).st ids) ρ (fun _=>False) a w:=by
 obtain⟨σ,own,hv,h⟩:=h;exact⟨σ,own,hv,h.snap n ids⟩
theorem Good.drew (h:Good C w0 σ0 S ρ A a w):Good C w0 σ0 S ρ A a {w with drawn:=w.drawn+1}:=by
 obtain⟨σ,own,hv,h⟩:=h;refine⟨σ,own,hv,h.defers,⟨fun k o v e=>h.ok.c k o v e,fun k es e=>h.ok.m k es e⟩,h.le,h.old,h.newc,h.newm,h.below.drew,h.bw,h.owns,h.regs,fun j=>?_,h.opts,?_⟩
 rotate_right
 ·obtain⟨t,fx,cx,f1,f2⟩:=h.frame;exact⟨t,fx,cx,⟨σ0.keep _ _ _ _ _ f1.F (Below.drew (.refl _ _)) (fun _ _=>rfl),f1.own,f1.c,f1.m,f1.d⟩,f2⟩
 exact(h.objs j).mono (.refl σ) (.refl S hv) rfl rfl (fun k hk=>⟨hk,rfl⟩)
end
def ur (g:Sh→Sh)(S:St)(rs:List Sh)(ds:List Nat):List Sh:=(ds.foldl (fun l d=>l.set d (S.r d)) rs).map g
theorem ZU (S:St):∀(ds:List Nat) (rs:List Sh),(ds.foldl (fun l d=>l.set d (S.r d)) rs).length=rs.length∧∀t,t<rs.length→(ds.foldl (fun l d=>l.set d (S.r d)) rs).getD t .none=if t∈ds then S.r t else rs.getD t .none
 |[],rs=>⟨rfl,fun t _=>by simp⟩
 |d::ds,rs=>by
  obtain⟨h1,h2⟩:=ZU S ds (rs.set d (S.r d));simp only[List.length_set] at h1 h2;refine⟨h1,fun t ht=>?_⟩;rw[M3,h2 t ht];simp only[cG,aS,Aq];by_cases hm:t∈ds
  ·simp[hm]
  ·by_cases e:d=t
   ·subst e;simp[hm,ht]
   ·have e':¬t=d:=fun h=>e h.symm;simp[hm,e,e']
theorem Fi {g:Sh→Sh}{S:St}{rs:List Sh}{ds:List Nat}(h:∀t,t∉ds→g (rs.getD t .none)=g (S.r t)):ur g S rs ds=(List.range rs.length).map fun t=>g (S.r t):=by
 obtain⟨h1,h2⟩:=ZU S ds rs;unfold ur;apply Xr;intro t;simp only[cU];by_cases ht:t<rs.length
 ·have:=h2 t ht;rw[aS,bK (by omega)] at this;rw[bK (by omega),pR ht];simp only[jE,jF] at this ⊢;rw[this];by_cases hm:t∈ds
  ·simp[hm]
  ·simp only[hm,if_false];rw[h t hm]
 ·rw[q9 (by omega),q9 (by simpa using ht)];rfl
def Sh.hd {α:Type}(s:Sh)(k:Sh→α):α:=
 match s with
 |.none=>k .none
 |.dat t=>k (.dat t)
 |.obj j v=>k (.obj j v)
 |.ptr j v o=>k (.ptr j v o)
 |.eptr j v z o=>k (.eptr j v z o)
 |.opt gs s=>k (.opt gs s)
 |.yv=>k .yv
 |.fclo f c=>k (.fclo f c)
theorem Sh.hd_eq {α:Type}(s:Sh)(k:Sh→α):s.hd k=k s:=by cases s<;>rfl
def yd {α:Type}:List Sh→(List Sh→α)→α
 |[],k=>k []
 |s::l,k=>s.hd fun s=>yd l fun l=>k (s::l)
theorem O2 {α:Type}:∀(l:List Sh) (k:List Sh→α),yd l k=k l
 |[],_=>rfl
 |s::l,k=>by rw[yd,Sh.hd_eq,O2 l]
def Ob.hd {α:Type}(s:Ob)(k:Ob→α):α:=
 match s with
 |.dead=>k .dead
 |.fz t=>k (.fz t)
 |.fbox t=>k (.fbox t)
 |.box true l=>yd l fun l=>k (.box true l)
 |.box false l=>yd l fun l=>k (.box false l)
 |.row T e=>k (.row T e)
 |.mp a b=>k (.mp a b)
 |.it a b=>k (.it a b)
 |.tr=>k .tr
theorem Ob.hd_eq {α:Type}(s:Ob)(k:Ob→α):s.hd k=k s:=by
 cases s with
 |box ag l=>cases ag<;>simp only[Ob.hd,O2]
 |_=>rfl
def HN {α:Type}:List Ob→(List Ob→α)→α
 |[],k=>k []
 |s::l,k=>s.hd fun s=>HN l fun l=>k (s::l)
theorem aai {α:Type}:∀(l:List Ob) (k:List Ob→α),HN l k=k l
 |[],_=>rfl
 |s::l,k=>by rw[HN,Ob.hd_eq,aai l]
def Snap.hard {α:Type}(s:Snap)(k:Snap→α):α:=yd s.rs fun a=>HN s.os fun b=>k ⟨a,b⟩
theorem Snap.hard_eq {α:Type}(s:Snap)(k:Snap→α):s.hard k=k s:=by rw[Snap.hard,O2,aai]
def HO {α β:Type}:List β→(List β→α)→α
 |[],k=>k []
 |s::l,k=>HO l fun l=>k (s::l)
theorem aak {α β:Type}:∀(l:List β) (k:List β→α),HO l k=k l
 |[],_=>rfl
 |s::l,k=>by rw[HO,aak l]
def CF {α β:Type}:List (List β)→(List (List β)→α)→α
 |[],k=>k []
 |s::l,k=>HO s fun s=>CF l fun l=>k (s::l)
theorem aaj {α β:Type}:∀(l:List (List β)) (k:List (List β)→α),CF l k=k l
 |[],_=>rfl
 |s::l,k=>by rw[CF,aak,aaj l]
def aK (P:Program){α:Type}(s:Sem α):Prop:=(∃a,∀w,s.run P w=.ok a w)∨∀w,∃h w',s.run P w=.halt h w'
section
variable {P:Program}
theorem aK.pure {α:Type}(a:α):aK P (Sem.pure a):=.inl ⟨a,fun w=>rfl⟩
theorem aK.pure' {α:Type}(a:α):aK P (Pure.pure a:Sem α):=.inl ⟨a,fun w=>rfl⟩
theorem aK.halt {α:Type}(h:Halt):aK P (Sem.halt h:Sem α):=.inr fun w=>⟨h,w,rfl⟩
theorem aK.bind' {α β:Type}{s:Sem α}{f:α→Sem β}(h:aK P s)(hf:∀a,(∀w,s.run P w=.ok a w)→aK P (f a)):aK P (s>>=f):=by
 rcases h with⟨a,ha⟩|hd
 ·rcases hf a ha with⟨b,hb⟩|hd
  ·exact .inl ⟨b,fun w=>by rw[Sem.run_bind,ha w];exact hb w⟩
  ·refine .inr fun w=>?_;obtain⟨x,w',e⟩:=hd w;exact⟨x,w',by rw[Sem.run_bind,ha w];exact e⟩
 ·refine .inr fun w=>?_;obtain⟨x,w',e⟩:=hd w;exact⟨x,w',by rw[Sem.run_bind,e];rfl⟩
theorem aK.bind {α β:Type}{s:Sem α}{f:α→Sem β}(h:aK P s)(hf:∀a,aK P (f a)):aK P (s>>=f):=h.bind' fun a _=>hf a
def cj {α:Type}(s:Sem α):Prop:=∀P w,∃h w',s.run P w=.halt h w'
theorem cj.noW {α:Type}{s:Sem α}(h:cj s):aK P s:=.inr (h P)
theorem cj.halt {α:Type}(h:Halt):cj (Sem.halt h:Sem α):=fun P w=>⟨h,w,rfl⟩
theorem cj.of_bind {α β:Type}{s:Sem α}{f:α→Sem β}(hf:∀a,cj (f a)):cj (s>>=f):=by
 intro P w;rw[Sem.run_bind];cases e:s.run P w with
 |ok a w'=>exact hf a P w'
 |halt h w'=>exact⟨h,w',rfl⟩
theorem aK.asBool (v:Value):aK P (Go.asBool v):=by
 cases v<;>first|exact .pure _|exact .halt _
theorem aK.asIntOf (v:Value):aK P (Go.asIntOf v):=by
 unfold Go.asIntOf;split<;>first|exact .pure _|exact .halt _
theorem aK.sureAddr (v:Value):aK P (Instr.sureAddr v):=by
 unfold Instr.sureAddr;split<;>first|exact .pure _|exact .halt _
theorem aK.prog:aK P Go.program:=.inl ⟨P,fun w=>rfl⟩
theorem aK.underlying (t:TypeId):aK P (Go.underlying t):=by
 unfold Go.underlying;refine .bind .prog fun p=>?_;split<;>first|exact .pure _|exact .halt _
theorem aK.sizeOf (t:TypeId):aK P (Go.sizeOf t):=by
 unfold Go.sizeOf Go.typeInfo;refine .bind (.bind .prog fun p=>?_) fun _=>.pure _;split<;>first|exact .pure _|exact .halt _
theorem cj.runtimePanic {α:Type}(e:RuntimeError):cj (Go.runtimePanic e:Sem α):=by
 unfold Go.runtimePanic;refine .of_bind fun p=>?_;cases e<;>first|exact .halt _|exact .of_bind fun _=>.halt _|exact .of_bind fun _=>.of_bind fun _=>.halt _
theorem cj.boundsPanic {α:Type}(k:IntKind)(x y:Int)(c:BoundsCode):cj (Go.boundsPanic k x y c:Sem α):=by
 unfold Go.boundsPanic;dsimp only;split<;>exact .of_bind fun _=>.runtimePanic _
theorem aK.indexAt (t:TypeId)(x i:Value):aK P (Instr.indexAt t x i):=by
 unfold Instr.indexAt
 repeat' (first|(first|exact aK.pure _|exact aK.pure' _|exact aK.halt _|exact cj.noW (cj.boundsPanic _ _ _ _)|exact cj.noW (cj.runtimePanic _)|exact aK.prog|exact aK.underlying _|exact aK.sizeOf _|exact aK.asIntOf _|exact aK.sureAddr _|exact aK.asBool _)|(refine aK.bind ?_ fun _=>?_)|dsimp only|split)
theorem aK.sliceBound (x:Value)(y:Nat)(c:BoundsCode):aK P (Instr.sliceBound x y c):=by
 unfold Instr.sliceBound
 repeat' (first|(first|exact aK.pure _|exact aK.pure' _|exact aK.halt _|exact cj.noW (cj.boundsPanic _ _ _ _)|exact cj.noW (cj.runtimePanic _)|exact aK.prog|exact aK.underlying _|exact aK.sizeOf _|exact aK.asIntOf _|exact aK.sureAddr _|exact aK.asBool _)|(refine aK.bind ?_ fun _=>?_)|dsimp only|split)
theorem aK.sliceBounds (b:Bool)(n m:Nat)(lo hi mx:Option Value):aK P (Instr.sliceBounds b n m lo hi mx):=by
 unfold Instr.sliceBounds
 repeat' (first|exact aK.sliceBound _ _ _|(first|exact aK.pure _|exact aK.pure' _|exact aK.halt _|exact cj.noW (cj.boundsPanic _ _ _ _)|exact cj.noW (cj.runtimePanic _)|exact aK.prog|exact aK.underlying _|exact aK.sizeOf _|exact aK.asIntOf _|exact aK.sureAddr _|exact aK.asBool _)|(refine aK.bind ?_ fun _=>?_)|dsimp only|split)
theorem aK.asAddr (v:Value):aK P (Go.asAddr v):=by
 unfold Go.asAddr
 repeat' (first|(first|exact aK.pure _|exact aK.pure' _|exact aK.halt _|exact cj.noW (cj.boundsPanic _ _ _ _)|exact cj.noW (cj.runtimePanic _)|exact aK.prog|exact aK.underlying _|exact aK.sizeOf _|exact aK.asIntOf _|exact aK.sureAddr _|exact aK.asBool _)|(refine aK.bind ?_ fun _=>?_)|dsimp only|split)
theorem aK.slice (t:TypeId)(x:Value)(lo hi mx:Option Value):aK P (Instr.slice t x lo hi mx):=by
 unfold Instr.slice
 repeat' (first|exact aK.sliceBounds _ _ _ _ _ _|exact aK.asAddr _|(first|exact aK.pure _|exact aK.pure' _|exact aK.halt _|exact cj.noW (cj.boundsPanic _ _ _ _)|exact cj.noW (cj.runtimePanic _)|exact aK.prog|exact aK.underlying _|exact aK.sizeOf _|exact aK.asIntOf _|exact aK.sureAddr _|exact aK.asBool _)|(refine aK.bind ?_ fun _=>?_)|dsimp only|split)
theorem aK.sliceAt (t:TypeId)(x:Value)(lo hi mx:Option Value):aK P (Instr.sliceAt t x lo hi mx):=by
 unfold Instr.sliceAt
 repeat' (first|exact aK.sliceBounds _ _ _ _ _ _|exact aK.slice _ _ _ _ _|(first|exact aK.pure _|exact aK.pure' _|exact aK.halt _|exact cj.noW (cj.boundsPanic _ _ _ _)|exact cj.noW (cj.runtimePanic _)|exact aK.prog|exact aK.underlying _|exact aK.sizeOf _|exact aK.asIntOf _|exact aK.sureAddr _|exact aK.asBool _)|(refine aK.bind ?_ fun _=>?_)|dsimp only|split)
def UC (P:Program)(s:TypeId)(i:Nat):Bool:=
 match P.underlying s with
 |some (.struct fs)=>(match fs[i]? with
  |some f=>(match P.info? f.type with|some d=> !Nat.beq d.size 0|none=>false)
  |none=>false)
 |_=>false
theorem aK.fieldAt {s:TypeId}{i:Nat}(h:UC P s i=true)(a:Value):aK P (Instr.fieldAt s a i):=by
 unfold Instr.fieldAt;refine .bind' (.underlying _) fun d hd=>?_;have hu:P.underlying s=some d:=by
  have:=hd default;unfold Go.underlying at this;rw[Sem.run_bind] at this;change Result.andThen (.ok P default) _=_ at this;simp only[Result.andThen_ok] at this;cases hp:P.underlying s with
  |none=>rw[hp] at this;cases this
  |some d'=>
   rw[hp] at this;change Result.ok d' default=_ at this;cases this;rfl
 unfold UC at h;rw[hu] at h;cases d<;>dsimp only at h ⊢<;>try (first|exact aK.pure _|exact aK.pure' _|exact aK.halt _|exact cj.noW (cj.boundsPanic _ _ _ _)|exact cj.noW (cj.runtimePanic _)|exact aK.prog|exact aK.underlying _|exact aK.sizeOf _|exact aK.asIntOf _|exact aK.sureAddr _|exact aK.asBool _)
 rename_i fs;cases hf:fs[i]? with
 |none=>dsimp only;(first|exact aK.pure _|exact aK.pure' _|exact aK.halt _|exact cj.noW (cj.boundsPanic _ _ _ _)|exact cj.noW (cj.runtimePanic _)|exact aK.prog|exact aK.underlying _|exact aK.sizeOf _|exact aK.asIntOf _|exact aK.sureAddr _|exact aK.asBool _)
 |some f=>
  rw[hf] at h;dsimp only at h ⊢;refine .bind (.sureAddr _) fun a=>.bind ?_ fun _=>.pure _;unfold Go.fieldPlace;refine .bind' (.sizeOf _) fun n hn=>?_;have hz:n≠0:=by
   intro e;have:=hn default;unfold Go.sizeOf Go.typeInfo at this;cases hi:P.info? f.type with
   |none=>rw[hi] at h;cases h
   |some inf=>
    rw[hi] at h;rw[Sem.run_bind,Sem.run_bind] at this;change Result.andThen (Result.andThen (.ok P default) _) _=_ at this;simp only[Result.andThen_ok,hi] at this;change Result.ok inf.size default=_ at this;cases this;dsimp only at h;rw[e] at h;cases h
  rw[if_neg hz]
  (first|exact aK.pure _|exact aK.pure' _|exact aK.halt _|exact cj.noW (cj.boundsPanic _ _ _ _)|exact cj.noW (cj.runtimePanic _)|exact aK.prog|exact aK.underlying _|exact aK.sizeOf _|exact aK.asIntOf _|exact aK.sureAddr _|exact aK.asBool _)
def D0 (P:Program):Op→Bool
 |.move _=>true
 |.assign _=>true
 |.pick ..=>true
 |.fieldAddr s _ i=>UC P s i
 |.indexAddr ..=>true
 |.slice ..=>true
 |_=>false
theorem az6 {o:Oper}(hp:D0 P o.op=true)(ρ:Operand→Value):(∃v,∀w,(execOp ρ o).run P w=.ok (.value v) w)∨∀w,∃h w',(execOp ρ o).run P w=.halt h w':=by
 have key:∀s:Sem Value,aK P s→(∃v,∀w,(do Pure.pure (Next.value (←s)):Sem Next).run P w=.ok (.value v) w)∨∀w,∃h w',(do Pure.pure (Next.value (←s)):Sem Next).run P w=.halt h w':=by
  intro s hs;rcases hs with⟨a,ha⟩|hd
  ·exact .inl ⟨a,fun w=>by rw[Sem.run_bind,ha w];rfl⟩
  ·refine .inr fun w=>?_;obtain⟨x,w',e⟩:=hd w;exact⟨x,w',by rw[Sem.run_bind,e];rfl⟩
 obtain⟨dst,op,type,pos,after,guard⟩:=o;cases op<;>first|(cases hp;done)|skip
 case move x=>exact .inl ⟨_,fun w=>rfl⟩
 case assign x=>exact .inl ⟨_,fun w=>rfl⟩
 case pick c a b=>
  have:=key (do Pure.pure (if←Go.asBool (ρ c) then ρ a else ρ b)) (.bind (.asBool _) fun _=>.pure _);simp only[execOp];rcases aK.asBool (P:=P) (ρ c) with⟨t,ht⟩|hd
  ·exact .inl ⟨_,fun w=>by rw[Sem.run_bind,ht w];rfl⟩
  ·refine .inr fun w=>?_;obtain⟨x,w',e⟩:=hd w;exact⟨x,w',by rw[Sem.run_bind,e];rfl⟩
 case fieldAddr s x i=>exact key _ (.fieldAt hp _)
 case indexAddr t x i=>exact key _ (.indexAt _ _ _)
 case slice t x lo hi mx=>exact key _ (.sliceAt _ _ _ _ _)
theorem az7 {rd:Option Nat}{ops:Array Oper}{i:Nat}{o:Oper}{a:Act}{w:World}{K:Act→World→Prop}(hi:ops[i]?=some o)(hp:D0 P o.op=true)
 (h:wpOpIn (FR rd) 0 P ops (fun _ _ _=>False) i K a w):∃v,YieldsFenced P ops o v a∧K (a.put o.dst v) w:=by
 have bp:∀c,o.op≠.defer c:=fun c e=>by rw[e] at hp;cases hp
 have yb:∀w,o.about P w a.eval=none:=fun w=>by
  unfold Oper.about;cases ho:o.op<;>first|rfl|(rw[ho] at hp;cases hp)
 unfold wpOpIn at h;rw[hi] at h;dsimp only at h;cases hw:Region.wanted o (yielded ops a.tmps) with
 |false=>
  rw[hw] at h;exact⟨undef,⟨.inr ⟨hw,rfl⟩,yb⟩,h.2⟩
 |true=>
  rw[hw,if_pos rfl] at h;have h2:=h.2;rw[Oper.semAt_eq _ _ _ bp] at h2;rcases az6 hp a.eval with⟨v,hv⟩|hd
  ·rw[hv w] at h2;exact⟨v,⟨.inl ⟨hw,hv⟩,yb⟩,h2⟩
  ·obtain⟨x,w',e⟩:=hd w;rw[e] at h2;cases x<;>exact h2.elim
section
variable {F:Fence} {n:Nat} {ops:Array Oper} {Q:Exit→Act→World→Prop} {md:Region.Mode}
theorem YF.wpOpIn {i:Nat}{o:Oper}{v:Value}{a:Act}(bp:nL o.op=true)(hi:ops[i]?=some o)(hy:YieldsFenced P ops o v a)
 {K:Act→World→Prop} {w:World} (h:K (a.put o.dst v) w):wpOpIn F n P ops Q i K a w:=by
 have jo:∀c,o.op≠.defer c:=fun c e=>by rw[e] at bp;cases bp
 unfold Go.wpOpIn;simp only[hi];have yb:∀f,o.about P w a.eval=some f→F.fn f:=fun f hf=>by rw[hy.2 w] at hf;cases hf
 rcases hy.1 with⟨hw,hv⟩|⟨hw,rfl⟩
 ·simp only[hw,if_true,Oper.wpIn,Oper.semAt_eq _ _ _ jo,hv w,Oper.uponIn];exact⟨yb,h⟩
 ·simp only[hw,uG,if_false];exact⟨yb,h⟩
theorem aEo {j:Nat}{oi oj:Oper}{v:Value}(bp:nL oj.op=true)(hj:ops[j]?=some oj)(O1:oi.apart ops oj=true)
 (Qd:∀cs b,oi.op≠.select cs b) (hsj:∀cs b,oj.op≠.select cs b)
 (hQ:∀c a w,Q (.panic c) (a.put oi.dst v) w→Q (.panic c) a w) {K:Act→World→Prop} {a:Act} {w:World}
 (hy:YieldsFenced P ops oi v a) (h:wpOpIn F n P ops Q j K (a.put oi.dst v) w):
 wpOpIn F n P ops Q j (fun a' w'=>YieldsFenced P ops oi v a'∧K (a'.put oi.dst v) w') a w:=by
 have jo:∀c,oj.op≠.defer c:=fun c e=>by rw[e] at bp;cases bp
 obtain⟨h1,h2,h3⟩:=Oper.apart_spec O1;have keep:∀(a:Act),YieldsFenced P ops oi v a→∀u,YieldsFenced P ops oi v (a.put oj.dst u):=fun a hy u=>
  hy.of_same (execOp_put oi Qd a oj.dst u h3) (wanted_put oi a oj.dst u h3) (fun w=>about_put oi w a oj.dst u h3)
 have avS:∀d,YieldsFenced P ops oi v {a with defers:=d::a.defers}:=fun d=>hy.of_same rfl rfl (fun _=>rfl);unfold Go.wpOpIn at*;simp only[hj] at*;rw[wanted_put oj a oi.dst v h1,about_put oj w a oi.dst v h1] at h;split
 ·rename_i hw;simp only[hw,if_true] at h;unfold Oper.wpIn at*;rw[about_put oj w a oi.dst v h1] at h;refine⟨h.1,?_⟩;have h:=h.2;rw[Oper.semAt_eq _ _ _ jo,execOp_put oj hsj a oi.dst v h1] at h;rw[Oper.semAt_eq _ _ _ jo];generalize (execOp a.eval oj).run P w=r at*;cases r with
  |ok x w'=>
   cases x<;>simp only[Oper.uponIn] at h ⊢
   case value u=>exact⟨keep a hy u,by rw[←Act.put_comm a v u h2];exact h⟩
   case skip=>exact⟨keep a hy _,by rw[←Act.put_comm a v undef h2];exact h⟩
   case defer d=>
        refine⟨keep _ (avS d) _,?_⟩;rw[←Act.put_comm _ v undef h2,←Act.put_defers];exact h
   case enter f args=>
        refine⟨h.1,CallsIn.mono h.2 fun e j0 he=>?_⟩;cases e with
        |returned u=>exact⟨keep a hy u,by rw[←Act.put_comm a v u h2];exact he⟩
        |panicked c=>exact hQ _ _ _ he
        |outgrown=>exact he
   case row row args=>exact⟨h.1,RowsIn.mono h.2 fun u j0 he=>⟨keep a hy u,by rw[←Act.put_comm a v u h2];exact he⟩⟩
   case round l f tmps assign body=>
        refine⟨h.1,RoundIn.mono h.2 fun e j0 he=>?_⟩;cases e with
        |returned u=>exact⟨keep a hy u,by rw[←Act.put_comm a v u h2];exact he⟩
        |panicked c=>exact hQ _ _ _ he
        |outgrown=>exact he
  |halt x w'=>
   cases x<;>simp only[Oper.uponIn] at h ⊢
   case panic u=>exact hQ _ _ _ h
 ·rename_i hw;simp only[hw] at h;exact⟨h.1,keep a hy _,by rw[←Act.put_comm a v undef h2];exact h.2⟩
theorem aEn {i:Nat}{oi:Oper}{v:Value}(bp:∀(j:Nat) (o:Oper),ops[j]?=some o→nL o.op=true)(hi:ops[i]?=some oi)(yz:∀(j:Nat) (o:Oper) cs b,ops[j]?=some o→o.op≠.select cs b)
 (hQ:∀c a w,Q (.panic c) (a.put oi.dst v) w→Q (.panic c) a w):
 ∀(fuel:Nat) (listed:Array Bool) (a:Act) (w:World),
  (∀j oj,ops[j]?=some oj→j≠i→listed.getD j true=false→(∀e∈oj.after,Region.binds md e=true→e.on≠i)→oi.apart ops oj=true)→
  i∈Region.ready md ops listed→YieldsFenced P ops oi v a→
  wpAnyIn F n P md ops Q fuel (listed.setIfInBounds i true) (a.put oi.dst v) w→wpAnyIn F n P md ops Q (fuel+1) listed a w:=by
 intro fuel
 induction fuel with
 |zero=>
  intro listed a w _ hr hy H;refine⟨fun h=>(by rw[h] at hr;cases hr),fun j hj=>?_⟩;by_cases gK:j=i
  ·subst gK;exact YF.wpOpIn (bp _ _ hi) hi hy H
  ·have:=ready_mono hj gK;rw[H.1] at this;cases this
 |succ fuel ih=>
  intro listed a w mz hr hy H;refine⟨fun h=>(by rw[h] at hr;cases hr),fun j hj=>?_⟩;by_cases gK:j=i
  ·subst gK;exact YF.wpOpIn (bp _ _ hi) hi hy H
  ·have h1:=H.2 j (ready_mono hj gK);obtain⟨aaP,oj,qo,aV⟩:=mem_ready.1 hj
   have PL:∀e∈oj.after,Region.binds md e=true→e.on≠i:=fun e he hb heq=>by
        have h1:=aV e he hb;have h0:=(mem_ready.1 hr).1;rw[heq] at h1;rcases Na i listed.size with h'|h'
        ·simp[h'] at h0 h1;rw[h0] at h1;cases h1
        ·simp[Array.getElem?_eq_none h'] at h1
   have h2:=aEo (bp _ _ qo) qo (mz j oj qo gK aaP PL) (fun cs b=>yz i oi cs b hi) (fun cs b=>yz j oj cs b qo) hQ hy h1;have atI:∀k ok,ops[k]?=some ok→k≠i→(listed.setIfInBounds j true).getD k true=false→
    (∀e∈ok.after,Region.binds md e=true→e.on≠i)→oi.apart ops ok=true:=fun k ok hk hki mF dX=>by
        refine mz k ok hk hki ?_ dX;by_cases H6:j=k
        ·subst H6;exact aaP
        ·rw[getD_set_ne true H6] at mF;exact mF
   refine wpOpIn_mono (fun a' w' h3=>ih (listed.setIfInBounds j true) a' w' atI (ready_mono hr (xk gK)) h3.1 ?_) h2;rw[Array.setIfInBounds_comm _ _ gK];exact h3.2
end
end
def rj (P:Program)(ops:Array Oper):List (Option (List Nat)):=(List.range ops.size).map fun i=>match ops[i]? with
 |some oi=>bif D0 P oi.op then some ((List.range ops.size).filter fun j=> !(Nat.beq j i||(match ops[j]? with|some oj=>(oj.after.toList.any fun e=>Region.binds .any e&&Nat.beq e.on i)||oi.apart ops oj|none=>true))) else none
 |none=>none
def zX (bad:List (Option (List Nat)))(E:Nat):List Nat→Option Nat
 |[]=>none
 |i::l=>match bad.getD i none with
  |some b=>bif b.all (aw E) then some i else zX bad E l
  |none=>zX bad E l
def RP (ops:Array Oper):Bool:=ops.toList.all fun o=>match o.op with|.select ..=>false|_=>true
theorem ME {bad:List (Option (List Nat))}{E:Nat}:∀{l:List Nat} {i:Nat},zX bad E l=some i→i∈l∧∃b,bad.getD i none=some b∧b.all (aw E)=true
 |[],_,h=>by cases h
 |i::l,j,h=>by
  unfold zX at h;split at h
  ·rename_i b hb;cases hc:b.all (aw E) with
   |true=>
    rw[hc] at h;cases h;exact⟨dw ..,b,hb,hc⟩
   |false=>
    rw[hc] at h;obtain⟨h1,h2⟩:=ME h;exact⟨dj _ h1,h2⟩
  ·obtain⟨h1,h2⟩:=ME h;exact⟨dj _ h1,h2⟩
theorem alA {P:Program}{ops:Array Oper}{i:Nat}{b:List Nat}(h:(rj P ops).getD i none=some b):∃oi,ops[i]?=some oi∧D0 P oi.op=true∧
 ∀j oj,ops[j]?=some oj→j≠i→j∉b→(∀e∈oj.after,Region.binds .any e=true→e.on≠i)→oi.apart ops oj=true:=by
 unfold rj at h;rw[aS,cU] at h;by_cases hi:i<ops.size
 ·rw[pR hi] at h;simp only[jF,jE] at h;rw[fh hi] at h;dsimp only at h;cases hp:D0 P ops[i].op<;>rw[hp] at h<;>simp only[cond_true,cond_false] at h
  ·cases h
  injection h with h
  refine⟨ops[i],fh hi,hp,fun j oj hj gK H5 dX=>?_⟩;have ah:j<ops.size:=(fU.1 hj).1;rw[←h] at H5;have h2:¬(!(Nat.beq j i||(match ops[j]? with|some oj=>(oj.after.toList.any fun e=>Region.binds .any e&&Nat.beq e.on i)||ops[i].apart ops oj|none=>true)))=true:=fun hc=>H5 (cQ.2 ⟨cd.2 ah,hc⟩);rw[hj,eu gK] at h2;simp only[pO,iw,Bool.not_eq_false,gB] at h2;rcases h2 with h2|h2
  ·obtain⟨e,he,hb⟩:=sF.1 h2;rw[ar] at hb;exact absurd (cK hb.2) (dX e (by simpa using he) hb.1)
  ·exact h2
 ·rw[q9 (by simpa using hi)] at h;cases h
def Dw (E:Nat)(T:Snap):List (Nat×Snap)→Option (List (Nat×Snap))
 |[]=>some [(E,T)]
 |x::l=>bif Nat.beq x.1 E then(bif x.2.beq T then some (x::l) else none) else(Dw E T l).map (x::·)
def lg (ops:Array Oper)(E:Nat):List Nat:=
 (List.range ops.size).filter fun i=> !aw E i&&(match ops[i]? with|some o=>o.after.toList.all fun e=> !Region.binds .any e||aw E e.on|none=>false)
def Ss (C:Ctx)(ops:Array Oper)(n:Nat)(ids:List Nat)(X:List (List PI))(nc:List (List Nat))(E:Nat)(T:Snap)(i:Nat):Option (Nat×Snap):=
 match ops[i]? with
 |some o=>(oH C (T.stO ids) ops o).bind fun r=>
  bif PI.beqs r.2 (X.getD i [])&&(nc.getD i []).all (aw E) then some (Nat.lor E (dE i),⟨ur (kA r.1) r.1 T.rs o.dst.toList,ids.map fun j=>gR r.1 (r.1.o j)⟩) else none
 |none=>none
def Fj (one:Nat→Option (Nat×Snap)):List Nat→List (Nat×Snap)→Option (List (Nat×Snap))
 |[],acc=>some acc
 |i::l,acc=>(one i).bind fun x=>x.2.hard fun T=>(Dw x.1 T acc).bind fun acc=>Fj one l acc
def oD (ops:Array Oper)(bad:List (Option (List Nat)))(E:Nat):List Nat:=
 match zX bad E (lg ops E) with
 |some i=>[i]
 |none=>lg ops E
def DD (ops:Array Oper)(bad:List (Option (List Nat)))(one:Nat→Snap→Nat→Option (Nat×Snap)):List (Nat×Snap)→List (Nat×Snap)→Option (List (Nat×Snap))
 |[],acc=>some acc
 |x::l,acc=>
  match oD ops bad x.1 with
  |[]=>none
  |rs=>(Fj (one x.1 x.2) rs acc).bind fun acc=>DD ops bad one l acc
def Ff (ops:Array Oper)(bad:List (Option (List Nat)))(one:Nat→Snap→Nat→Option (Nat×Snap)):Nat→List (Nat×Snap)→Option Snap
 |0,L=>
  match L with
  |[x]=>bif (List.range ops.size).all (aw x.1) then some x.2 else none
  |_=>none
 |k+1,L=>(DD ops bad one L []).bind fun L=>Ff ops bad one k L
theorem abB {E:Nat}{T:Snap}:∀{l l':List (Nat×Snap)},Dw E T l=some l'→(E,T)∈l'∧∀x,x∈l→x∈l'
 |[],l',h=>by simp only[Dw,bf] at h;subst h;simp
 |x::l,l',h=>by
  simp only[Dw] at h;cases hb:Nat.beq x.1 E<;>simp only[hb,cond_true,cond_false] at h
  ·simp only[aH] at h;obtain⟨l2,h2,rfl⟩:=h;obtain⟨h3,h4⟩:=abB h2;exact⟨dj _ h3,fun y hy=>(cG.1 hy).elim (fun e=>e▸dw ..) fun hm=>dj _ (h4 y hm)⟩
  ·cases hs:x.2.beq T<;>simp only[hs,cond_true,cond_false] at h
   ·cases h
   ·cases h;refine⟨?_,fun y hy=>hy⟩;have e1:=cK hb;have e2:=Snap.beq_eq _ _ hs;subst e1;subst e2;simp
theorem ahB {one:Nat→Option (Nat×Snap)}:∀{rs:List Nat} {acc Aw:List (Nat×Snap)},Fj one rs acc=some Aw→(∀x,x∈acc→x∈Aw)∧∀i,i∈rs→∃x,one i=some x∧x∈Aw
 |[],acc,Aw,h=>by simp only[Fj,bf] at h;subst h;simp
 |i::rs,acc,Aw,h=>by
  simp only[Fj,Snap.hard_eq,ax] at h;obtain⟨x,hx,ajb,h1,h2⟩:=h;obtain⟨h3,h4⟩:=abB h1;obtain⟨h5,h6⟩:=ahB h2;refine⟨fun y hy=>h5 y (h4 y hy),fun j hj=>?_⟩;rcases cG.1 hj with e|hm
  ·subst e;exact⟨x,hx,h5 _ h3⟩
  ·exact h6 j hm
theorem abT {ops:Array Oper}{bad:List (Option (List Nat))}{one:Nat→Snap→Nat→Option (Nat×Snap)}:∀{L acc L':List (Nat×Snap)},DD ops bad one L acc=some L'→
 (∀x,x∈acc→x∈L')∧∀x,x∈L→oD ops bad x.1≠[]∧∀i,i∈oD ops bad x.1→∃y,one x.1 x.2 i=some y∧y∈L'
 |[],acc,L',h=>by simp only[DD,bf] at h;subst h;simp
 |x::L,acc,L',h=>by
  simp only[DD] at h;split at h
  ·cases h
  ·rename_i aB;simp only[ax] at h;obtain⟨ajb,h1,h2⟩:=h;obtain⟨h3,h4⟩:=ahB h1;obtain⟨h5,h6⟩:=abT h2;refine⟨fun y hy=>h5 y (h3 y hy),fun y hy=>?_⟩;rcases cG.1 hy with e|hm
   ·subst e;refine⟨fun e=>aB e,fun i hi=>?_⟩;obtain⟨z,hz,hm⟩:=h4 i hi;exact⟨z,hz,h5 z hm⟩
   ·exact h6 y hm
def eg (X:List (List PI))(l:List Nat)(E:Nat):List PI:=l.flatMap fun i=>bif aw E i then[] else X.getD i []
theorem Um {X:List (List PI)}{E E':Nat}:∀(l:List Nat),(∀i,i∈l→aw E i=aw E' i)→eg X l E=eg X l E'
 |[],_=>rfl
 |i::l,h=>by
  have ih:=Um (X:=X) l fun j hj=>h j (dj _ hj);unfold eg at ih ⊢;simp only[uL];rw[ih,h i (dw ..)]
theorem Foot.comm_each {a b:List PI}(h:(gJ a).comm (gJ b)=true):∀p q,p∈a→q∈b→Comm p q:=by
 simp only[Foot.comm,ar] at h;obtain⟨h1,h2,h3,h4,h5,h6⟩:=h;intro p q hp hq;obtain⟨p1,p2,p3,p4⟩:=ZV hp;obtain⟨q1,q2,q3,q4⟩:=ZV hq;exact⟨fun t x y=>QG h1 (p1 t x) (q1 t y),fun t x y=>QG h2 (p1 t x) (q3 t y),fun t x y=>QG h3 (q1 t x) (p3 t y),fun t x y=>Nl h4 (p2 t x) (q2 t y),fun t x y=>Nl h5 (p2 t x) (q4 t y),fun t x y=>Nl h6 (q2 t x) (p4 t y)⟩
def ph (X:List (List PI))(N:Nat):List (List Nat):=
 (List.range N).map fun i=>(List.range i).filter fun j=> !(gJ (X.getD j [])).comm (gJ (X.getD i []))
theorem iI (E i j:Nat):aw (Nat.lor E (dE i)) j=(aw E j||Nat.beq i j):=by
 rw[eO]
 congr 1
 rw[rl];show(1<<<i).testBit j=_;rw[Nat.testBit_shiftLeft];by_cases h:i=j
 ·subst h;simp
 ·have h1:Nat.beq i j=false:=eu h;rw[h1];by_cases h2:i≤j
  ·have:j-i≠0:=by omega
   cases hk:j-i with
   |zero=>omega
   |succ k=>
    have:(1:Nat).testBit (k+1)=false:=by simp[Nat.testBit_succ]
    simp[this]
  ·simp[h2]
theorem ag8 {X:List (List PI)}{N E i:Nat}(hi:i<N)(hb:aw E i=false)(dq:((ph X N).getD i []).all (aw E)=true)(Φ:aT)(ρ:Env):
 PI.runs Φ (eg X (List.range N) E) ρ=(PI.runs Φ (X.getD i []) ρ).bind (PI.runs Φ (eg X (List.range N) (Nat.lor E (dE i)))):=by
 obtain⟨l1,l2,hl⟩:=Xn (cd.2 hi);have hp:=List.pairwise_lt_range (n:=N);rw[hl,List.pairwise_append] at hp;obtain⟨_,eX,hp3⟩:=hp;rw[XA] at eX;have lt1:∀j,j∈l1→j<i:=fun j hj=>hp3 j hj i (dw ..);have lt2:∀j,j∈l2→i<j:=fun j hj=>eX.1 j hj;have e0:∀E,eg X (l1++i::l2) E=eg X l1 E++((bif aw E i then[] else X.getD i [])++eg X l2 E):=fun E=>by simp[eg]
 have e1:eg X l1 (Nat.lor E (dE i))=eg X l1 E:=Um l1 fun j hj=>by
  rw[iI,eu (by have:=lt1 j hj;omega),w9]
 have e2:eg X l2 (Nat.lor E (dE i))=eg X l2 E:=Um l2 fun j hj=>by
  rw[iI,eu (by have:=lt2 j hj;omega),w9]
 have e3:aw (Nat.lor E (dE i)) i=true:=by rw[iI,gY,m6]
 rw[hl,e0,e0,e1,e2,e3,hb];simp only[cond_true,cond_false,sH]
 have ato:PI.runs Φ (eg X l1 E++X.getD i [])=PI.runs Φ (X.getD i []++eg X l1 E):=funext fun ρ=>PI.comms _ _ (fun p q hp hq=>by
  unfold eg at hp;obtain⟨j,hj,hp⟩:=mf.1 hp;cases oQ:aw E j<;>simp only[oQ,cond_true,cond_false] at hp
  case true=>cases hp
  have hc:(gJ (X.getD j [])).comm (gJ (X.getD i []))=true:=by
   cases ia:(gJ (X.getD j [])).comm (gJ (X.getD i [])) with
   |true=>rfl
   |false=>
    have tj:(ph X N).getD i []=(List.range i).filter fun j=> !(gJ (X.getD j [])).comm (gJ (X.getD i [])):=by
     unfold ph;rw[aS,cU,pR hi];rfl
    rw[tj] at dq;have:=bL.1 dq j (cQ.2 ⟨cd.2 (lt1 j hj),by rw[ia];rfl⟩);rw[oQ] at this;cases this
  exact Foot.comm_each hc p q hp hq) ρ
 rw[←pQ,oa,ato];have:=oa (Φ:=Φ) (a:=X.getD i []) (b:=eg X l1 E) (ρ:=ρ);rw[this,Option.bind_assoc]
 congr 1
 funext ρ1;rw[oa]
def eM (C:Ctx)(ops:Array Oper):List Nat→St→Option (List (List PI))
 |[],_=>some []
 |i::l,S=>
  match ops[i]? with
  |some o=>(oH C S ops o).bind fun r=>(eM C ops l r.1).map fun q=>r.2::q
  |none=>none
def Z2 (ops:Array Oper):Bool:=(List.range ops.size).all fun i=>match ops[i]? with
 |some o=>(match o.guard with|some (j,_)=>Nat.blt j i|none=>true)
 |none=>true
def xW (ops:Array Oper):Bool:=ops.toList.all fun o=>match o.guard with
 |some (j,_)=>o.after.toList.any fun e=>Region.binds .any e&&Nat.beq e.on j
 |none=>true
def bI:Operand→List Nat
 |.tmp t=>[t]
 |_=>[]
def zZ:Option Operand→List Nat
 |some x=>bI x
 |none=>[]
def kX:Op→List Nat
 |.move x=>bI x
 |.assign x=>bI x
 |.unOp _ _ x=>bI x
 |.convert _ _ x=>bI x
 |.load _ x=>bI x
 |.fieldAddr _ x _=>bI x
 |.field _ x _=>bI x
 |.extract x _=>bI x
 |.nilCheck x=>bI x
 |.pick c x y=>bI c++bI x++bI y
 |.binOp _ _ x y _=>bI x++bI y
 |.indexAddr _ x i=>bI x++bI i
 |.index _ x i=>bI x++bI i
 |.lookup _ m k _=>bI m++bI k
 |.slice _ x lo hi _=>bI x++zZ lo++zZ hi
 |.build _ ps=>ps.toList.flatMap fun p=>bI p.2
 |.call c=>(match c.callee with|.value x=>bI x|_=>[])++c.args.toList.flatMap bI
 |.store _ x v=>bI x++bI v
 |.mapUpdate _ m k v=>bI m++bI k++bI v
 |_=>[]
def HB (ops:Array Oper)(o:Oper):List Nat:=
 match o.guard with
 |some (j,_)=>(match(ops[j]?).bind (·.dst) with|some t=>[t]|none=>[])
 |none=>[]
def St.withR (S:St)(f:Nat→Sh):St:=⟨f,S.o,S.ver⟩
section
variable {C:Ctx} {S:St} {f:Nat→Sh} {gs:List (Nat×Bool)} {dst:Nat}
theorem zR {t:Nat}(h:f t=S.r t):kL (S.withR f) gs t=kL S gs t:=by
 have e:(S.withR f).r t=S.r t:=h;unfold kL;rw[e]
theorem uq {x:Operand}(h:∀t,t∈bI x→f t=S.r t):gj (S.withR f) gs x=gj S gs x:=by
 cases x<;>first|rfl|exact zR (h _ (rf.2 rfl))
theorem dN {x:Operand}(h:∀t,t∈bI x→f t=S.r t):use C (S.withR f) gs x=use C S gs x:=by
 cases x<;>first|rfl|(unfold use;simp only;rw[zR (h _ (rf.2 rfl))];rfl)
theorem aiu {x:Operand}(h:∀t,t∈bI x→f t=S.r t):view C (S.withR f) gs x=view C S gs x:=by
 unfold view;rw[dN h];cases x<;>first|rfl|(simp only;rw[zR (h _ (rf.2 rfl))];rfl)
theorem W0:∀{xs:List Operand},(∀t,t∈xs.flatMap bI→f t=S.r t)→ll C (S.withR f) gs xs=ll C S gs xs
 |[],_=>rfl
 |x::xs,h=>by
  simp only[ll]
  rw[dN fun t ht=>h t (mf.2 ⟨x,dw ..,ht⟩),W0 fun t ht=>by
   obtain⟨y,hy,rQ⟩:=mf.1 ht;exact h t (mf.2 ⟨y,dj _ hy,rQ⟩)]
theorem aEd {x:Option Operand}(h:∀t,t∈zZ x→f t=S.r t):Fx C (S.withR f) gs x=Fx C S gs x:=by
 cases x with
 |none=>rfl
 |some x=>exact dN h
theorem aEb {e:PE}{x:Option Operand}(h:∀t,t∈zZ x→f t=S.r t):Fw C (S.withR f) gs e x=Fw C S gs e x:=by
 cases x with
 |none=>rfl
 |some x=>exact dN h
theorem qA:∀{xs:List Operand},(∀t,t∈xs.flatMap bI→f t=S.r t)→cm (S.withR f) gs xs=cm S gs xs
 |[],_=>rfl
 |x::xs,h=>by
  simp only[cm]
  rw[uq fun t ht=>h t (mf.2 ⟨x,dw ..,ht⟩),qA fun t ht=>by
   obtain⟨y,hy,rQ⟩:=mf.1 ht;exact h t (mf.2 ⟨y,dj _ hy,rQ⟩)]
  rfl
theorem Yw:∀(l:List Sh) (j i:Nat),rn (S.withR f) j l i=rn S j l i
 |[],_,_=>rfl
 |s::l,j,i=>by simp only[rn];rw[Yw l j (i+1)];rfl
theorem iX {P:Nat→Prop}{a b:List Nat}(h:∀t,t∈a++b→P t):(∀t,t∈a→P t)∧∀t,t∈b→P t:=
 ⟨fun t ht=>h t (je _ ht),fun t ht=>h t (jC _ ht)⟩
theorem afK {x:Operand}(h:∀t,t∈bI x→f t=S.r t):pk C (S.withR f) gs dst x=pk C S gs dst x:=by
 unfold pk;rw[dN h];cases x<;>first|rfl|(simp only;rw[zR (h _ (rf.2 rfl))])
theorem azt {c x y:Operand}(h:∀t,t∈bI c++bI x++bI y→f t=S.r t):y9 C (S.withR f) gs dst c x y=y9 C S gs dst c x y:=by
 obtain⟨h1,h3⟩:=iX h;obtain⟨h1,h2⟩:=iX h1;unfold y9;cases c<;>first|rfl|skip
 simp only;rw[zR (h1 _ (rf.2 rfl)),dN h2,dN h3]
theorem ay4 {op:BinOp}{T:TypeId}{x y:Operand}(h:∀t,t∈bI x++bI y→f t=S.r t):yW C (S.withR f) gs dst op T x y=yW C S gs dst op T x y:=by
 obtain⟨h1,h2⟩:=iX h;unfold yW;rw[dN h1,dN h2]
theorem azy {op:UnOp}{x:Operand}(h:∀t,t∈bI x→f t=S.r t):zb C (S.withR f) gs dst op x=zb C S gs dst op x:=by unfold zb;rw[dN h]
theorem ay8 {s d:TypeId}{x:Operand}(h:∀t,t∈bI x→f t=S.r t):yY C (S.withR f) gs dst s d x=yY C S gs dst s d x:=by unfold yY;rw[dN h]
theorem azl {T:TypeId}{x:Operand}(h:∀t,t∈bI x→f t=S.r t):y6 C (S.withR f) gs dst T x=y6 C S gs dst T x:=by unfold y6;rw[aiu h]
theorem afI {b:Bool}{x y:Operand}(h:∀t,t∈bI x++bI y→f t=S.r t):wg C (S.withR f) gs dst b x y=wg C S gs dst b x y:=by
 obtain⟨h1,h2⟩:=iX h;unfold wg;rw[dN h1,dN h2]
theorem azn {T:TypeId}{x:Operand}(h:∀t,t∈bI x→f t=S.r t):tU C (S.withR f) gs dst T x=tU C S gs dst T x:=by
 unfold tU;rw[uq h,dN h];simp only[Yw];rfl
theorem azc {T:TypeId}{x:Operand}{i:Nat}(h:∀t,t∈bI x→f t=S.r t):y3 C (S.withR f) gs dst T x i=y3 C S gs dst T x i:=by
 unfold y3;rw[uq h,dN h];rfl
theorem aze {T:TypeId}{x:Operand}{i:Nat}(h:∀t,t∈bI x→f t=S.r t):y2 C (S.withR f) gs dst T x i=y2 C S gs dst T x i:=by unfold y2;rw[dN h]
theorem azh {T:TypeId}{x i:Operand}(h:∀t,t∈bI x++bI i→f t=S.r t):y5 C (S.withR f) gs dst T x i=y5 C S gs dst T x i:=by
 obtain⟨h1,h2⟩:=iX h;unfold y5;rw[dN h1,dN h2,uq h1];rfl
theorem azj {T:TypeId}{x i:Operand}(h:∀t,t∈bI x++bI i→f t=S.r t):y4 C (S.withR f) gs dst T x i=y4 C S gs dst T x i:=by
 obtain⟨h1,h2⟩:=iX h;unfold y4;rw[dN h1,dN h2]
theorem aza {x:Operand}{i:Nat}(h:∀t,t∈bI x→f t=S.r t):yZ C (S.withR f) gs dst x i=yZ C S gs dst x i:=by unfold yZ;rw[dN h]
theorem azp {T:TypeId}{m k:Operand}{ok:Bool}(h:∀t,t∈bI m++bI k→f t=S.r t):y7 C (S.withR f) gs dst T m k ok=y7 C S gs dst T m k ok:=by
 obtain⟨h1,h2⟩:=iX h;unfold y7;rw[aiu h1,dN h2]
theorem azw {T:TypeId}{x:Operand}{lo hi mx:Option Operand}(h:∀t,t∈bI x++zZ lo++zZ hi→f t=S.r t):za C (S.withR f) gs dst T x lo hi mx=za C S gs dst T x lo hi mx:=by
 obtain⟨h1,h3⟩:=iX h;obtain⟨h1,h2⟩:=iX h1;unfold za;rw[dN h1];simp only[aEd h2,aEb h3]
theorem Yn {zs:List Value}{parts:List (Nat×Operand)}(h:∀t,t∈(parts.flatMap fun p=>bI p.2)→f t=S.r t):∀(fs:List Field) (i off:Nat),j8 C (S.withR f) gs zs parts fs i off=j8 C S gs zs parts fs i off
 |[],_,_=>rfl
 |g::fs,i,off=>by
  simp only[j8,Yn h fs];cases hp:parts.find? (fun p=>Nat.beq p.1 i) with
  |none=>rfl
  |some p=>
   have hu:use C (S.withR f) gs p.2=use C S gs p.2:=dN fun t ht=>h t (mf.2 ⟨p,pU hp,ht⟩);simp only[hu]
theorem ay6 {T:TypeId}{ps:List (Nat×Operand)}(h:∀t,t∈(ps.flatMap fun p=>bI p.2)→f t=S.r t):yX C (S.withR f) gs dst T ps=yX C S gs dst T ps:=by
 unfold yX;simp only[Yn h];split
 ·rfl
 ·split
  ·split
   ·rename_i x y;rw[dN (x:=x) fun t ht=>h t (by simp[ht]),dN (x:=y) fun t ht=>h t (by simp[ht])]
   ·rfl
  ·rfl
 ·rfl
theorem azr {x:Operand}(h:∀t,t∈bI x→f t=S.r t):y8 C (S.withR f) gs dst x=y8 C S gs dst x:=by
 unfold y8;rw[dN h];cases x<;>first|rfl|(simp only;rw[zR (h _ (rf.2 rfl))];rfl)
def mm:Op→Bool
 |.move _|.pick ..|.binOp ..|.unOp ..|.convert ..|.load ..|.fieldAddr ..|.field ..|.indexAddr ..|.index ..|.extract ..|.lookup ..|.slice ..|.build ..|.nilCheck _|.makeInterface ..|.call _=>true
 |_=>false
theorem afM {op:Op}(hq:mm op=true)(h:∀t,t∈kX op→f t=S.r t):nN C (S.withR f) gs dst op=nN C S gs dst op:=by
 cases op<;>simp only[mm] at hq<;>simp only[kX] at h<;>simp only[nN]
 case move=>exact afK h
 case pick=>exact azt h
 case binOp=>exact ay4 h
 case unOp=>exact azy h
 case convert=>exact ay8 h
 case load=>exact azn h
 case fieldAddr=>exact azc h
 case field=>exact aze h
 case indexAddr=>exact azh h
 case index=>exact azj h
 case extract=>exact aza h
 case lookup=>exact azp h
 case slice=>exact azw h
 case build=>exact ay6 h
 case nilCheck=>exact azr h
 case call c=>
  obtain⟨_,h2⟩:=iX h;split
  ·rename_i x T _ ha _;exact azl fun t ht=>h2 t (by rw[ha];simp[ht])
  ·rename_i x y _ ha;exact afI fun t ht=>h2 t (by rw[ha];simpa using ht)
  ·rename_i x y _ ha;exact afI fun t ht=>h2 t (by rw[ha];simpa using ht)
  ·rfl
 all_goals (cases hq;done)
theorem az0 {op:Op}(h:∀t,t∈kX op→f t=S.r t)(hq:mm op=true):tW (S.withR f) gs op=tW S gs op:=by
 cases op<;>simp only[mm] at hq<;>simp only[kX] at h<;>simp only[tW]
 case build T ps=>exact qA fun t ht=>h t (by
  obtain⟨x,hx,Qv⟩:=mf.1 ht;obtain⟨p,hp,rfl⟩:=dx.1 hx;exact mf.2 ⟨p,hp,Qv⟩)
 case pick c x y=>
  obtain⟨h1,h3⟩:=iX h;obtain⟨h1,h2⟩:=iX h1;refine qA fun t ht=>?_;simp only[uL,Xt,mc,cY] at ht;exact ht.elim (h2 t) (h3 t)
 case slice T x lo hi mx=>
  obtain⟨h1,h3⟩:=iX h;obtain⟨h1,h2⟩:=iX h1;exact qA fun t ht=>h1 t (by simpa using ht)
 all_goals first|rfl|(cases hq;done)
theorem az1 {op:Op}(h:∀t,t∈kX op→f t=S.r t)(hq:mm op=true):pre C (S.withR f) gs op=pre C S gs op:=by
 have vE:=hq;cases op<;>simp only[mm] at hq<;>simp only[pre,az0 h vE]
 case load T x=>simp only[kX] at h;rw[uq h];rfl
 all_goals first|(cases hq;done)|skip
theorem asJ {ops:Array Oper}{o:Oper}(h:∀t,t∈HB ops o→f t=S.r t):oP (S.withR f) ops o=oP S ops o:=by
 unfold oP;cases hg:o.guard with
 |none=>rfl
 |some jw=>
  obtain⟨j,want⟩:=jw;simp only;cases ht:(ops[j]?).bind (·.dst) with
  |none=>rfl
  |some t=>
   simp only;have:(S.withR f).r t=S.r t:=h t (by unfold HB;rw[hg];simp[ht]);rw[this]
end
def Cr (C:Ctx)(S:St)(gs:List (Nat×Bool))(dst:Nat)(op:Op):Option (Sh×List PI):=
 match op with
 |.assign x=>
  match gs with
  |[]=>bif C.fr.any (Nat.beq dst)&&(cm S [] [x]).isEmpty then(match pk C S [] dst x with|some r=>bif mI r.1 then some r else none|none=>none) else none
  |_=>none
 |.call c=>
  match nN C S gs dst (.call c) with
  |some r=>bif qz r.1&&iL gs (some dst) r.2 then some (iK gs r.1,r.2) else none
  |none=>
   bif (cm S gs c.args.toList).isEmpty then
    match c.callee with
    |.value (.func f)=>(match oK C S gs dst f c.args.toList with|some r=>bif iL gs (some dst) r.2.2 then some (iK gs r.2.1,r.2.2) else none|none=>none)
    |.value x=>(match ns C S gs dst x c.args.toList with|some r=>bif iL gs (some dst) r.2.2 then some (iK gs r.2.1,r.2.2) else none|none=>none)
    |_=>none
   else none
 |op=>bif mm op&&(pre C S gs op).isEmpty then(match nN C S gs dst op with|some r=>bif qz r.1&&iL gs (some dst) r.2 then some (iK gs r.1,r.2) else none|none=>none) else none
def Cs (C:Ctx)(S:St)(gs:List (Nat×Bool))(op:Op):Option (List PI):=
 match op,gs with
 |.store T x v,[]=>
  match gj S [] x with
  |.eptr ..=>bif (cm S [] [v]).isEmpty then(sS C S T x v).map (·.2) else none
  |_=>none
 |.mapUpdate T m k v,[]=>bif (cm S [] [k,v]).isEmpty then(rq C S T m k v).map (·.2) else none
 |.panic _,[]=>some [.chk (.nt (.con (.bool true)))]
 |_,_=>none
def sX (C:Ctx)(S:St)(ops:Array Oper)(o:Oper):Option (Sh×List PI):=
 match C.yl with
 |some _=>none
 |none=>(oP S ops o).bind fun gs=>
  match o.dst with
  |some dst=>Cr C S gs dst o.op
  |none=>(Cs C S gs o.op).map fun l=>(.none,l)
def mY (S:St)(o:Oper)(s:Sh):St:=match o.dst with|some d=>S.setR d s|none=>S
section
variable {C:Ctx} {S:St} {f:Nat→Sh} {gs:List (Nat×Bool)} {dst:Nat}
theorem ao0 {g:Nat}{xs:List Operand}(h:∀t,t∈xs.flatMap bI→f t=S.r t)(he:(cm S gs xs).isEmpty=true):
 (match oK C (S.withR f) gs dst g xs with|some r=>bif iL gs (some dst) r.2.2 then some (iK gs r.2.1,r.2.2) else none|none=>none)=(match oK C S gs dst g xs with|some r=>bif iL gs (some dst) r.2.2 then some (iK gs r.2.1,r.2.2) else none|none=>none):=by
 have ho:=qA (gs:=gs) h;have kR:=re.1 he;unfold oK;cases C.sig g with
 |none=>rfl
 |some s=>
  simp only[kP];cases s.mode<;>first|rfl|skip
  simp only[ho,kR,St.fzs,Xv,W0 h];cases ll C S gs xs with
  |none=>rfl
  |some u=>
   simp only[kP];cases Ty.subs u.1 s.args<;>rfl
theorem aoV {x:Operand}{xs:List Operand}(hx:∀t,t∈bI x→f t=S.r t)(h:∀t,t∈xs.flatMap bI→f t=S.r t)(he:(cm S gs xs).isEmpty=true):
 (match ns C (S.withR f) gs dst x xs with|some r=>bif iL gs (some dst) r.2.2 then some (iK gs r.2.1,r.2.2) else none|none=>none)=(match ns C S gs dst x xs with|some r=>bif iL gs (some dst) r.2.2 then some (iK gs r.2.1,r.2.2) else none|none=>none):=by
 have ho:=qA (gs:=gs) h;have kR:=re.1 he;unfold ns;rw[dN hx];cases use C S gs x with
 |none=>rfl
 |some y=>
  obtain⟨ty,e⟩:=y;cases ty with
  |fn aa r=>
   simp only;cases lR aa r with
   |some _=>rfl
   |none=>
    simp only[ho,kR,St.fzs,Xv,W0 h];cases ll C S gs xs with
    |none=>rfl
    |some u=>
     simp only[kP];cases Ty.subs u.1 aa<;>rfl
  |_=>rfl
theorem apW {op:Op}(h:∀t,t∈kX op→f t=S.r t):Cr C (S.withR f) gs dst op=Cr C S gs dst op:=by
 have other:∀op,(∀t,t∈kX op→f t=S.r t)→(bif mm op&&(pre C (S.withR f) gs op).isEmpty then(match nN C (S.withR f) gs dst op with|some r=>bif qz r.1&&iL gs (some dst) r.2 then some (iK gs r.1,r.2) else none|none=>none) else none)=
  (bif mm op&&(pre C S gs op).isEmpty then(match nN C S gs dst op with|some r=>bif qz r.1&&iL gs (some dst) r.2 then some (iK gs r.1,r.2) else none|none=>none) else none):=by
  intro op h;cases hq:mm op with
  |false=>rfl
  |true=>rw[az1 h hq,afM hq h]
 unfold Cr;split
 ·rename_i x;simp only[kX] at h;rw[afK h,qA (xs:=[x]) fun t ht=>h t (by simpa using ht)]
 ·rename_i c;have h':=h;simp only[kX] at h';obtain⟨h1,h2⟩:=iX h';rw[afM (op:=.call c) rfl h,qA h2];split
  ·rfl
  ·cases he:(cm S gs c.args.toList).isEmpty with
   |false=>rfl
   |true=>
    simp only[cond_true];split
    ·exact ao0 h2 he
    ·rename_i x _ hc;exact aoV (fun t ht=>h1 t (by rw[hc];exact ht)) h2 he
    ·rfl
 ·exact other _ h
theorem apX {op:Op}(h:∀t,t∈kX op→f t=S.r t):Cs C (S.withR f) gs op=Cs C S gs op:=by
 unfold Cs;split
 ·rename_i T x v;simp only[kX] at h;obtain⟨h1,h2⟩:=iX h;rw[uq h1,qA (xs:=[v]) fun t ht=>h2 t (by simpa using ht)];split
  ·rename_i j ver size off kq;cases(cm S [] [v]).isEmpty with
   |false=>rfl
   |true=>
    simp only[cond_true];unfold sS;rw[uq h1,dN h2,kq];simp only;have eo:(S.withR f).o=S.o:=rfl;have ev:(S.withR f).ver=S.ver:=rfl;rw[eo,ev];cases C.P.info? T with
    |none=>rfl
    |some inf=>
     simp only;cases Nat.beq ver (S.ver j) with
     |false=>rfl
     |true=>
      simp only[cond_true];cases S.o j with
      |row T' e0=>
       cases use C S [] v with
       |none=>cases e0<;>rfl
       |some y=>
        obtain⟨t,e⟩:=y;cases e0<;>simp only<;>(generalize (_&&_:Bool)=b;cases b<;>rfl)
      |_=>rfl
  ·rfl
 ·rename_i T m k v;simp only[kX] at h;obtain⟨h1,h3⟩:=iX h;obtain⟨h1,h2⟩:=iX h1
  rw[qA (xs:=[k,v]) fun t ht=>by
   simp only[uL,Xt,mc,cY] at ht;exact ht.elim (h2 t) (h3 t)]
  cases(cm S [] [k,v]).isEmpty with
  |false=>rfl
  |true=>
   simp only[cond_true];unfold rq;rw[uq h1,dN h2,dN h3];have eo:(S.withR f).o=S.o:=rfl;have ev:(S.withR f).ver=S.ver:=rfl;rw[eo,ev];cases C.P.underlying T with
   |none=>rfl
   |some desc=>
    cases desc with
    |map K E=>
     cases gj S [] m with
     |obj j ver=>
      simp only;cases Nat.beq ver (S.ver j) with
      |false=>rfl
      |true=>
       simp only[cond_true];cases S.o j with
       |mp kt et=>
        cases use C S [] k with
        |none=>rfl
        |some y=>
         cases use C S [] v with
         |none=>rfl
         |some z=>
          obtain⟨tk,ek⟩:=y;obtain⟨tv,ev⟩:=z;simp only;generalize (_&&_:Bool)=b;cases b<;>rfl
       |_=>rfl
     |_=>rfl
    |_=>rfl
 ·rfl
 ·rfl
theorem apZ {ops:Array Oper}{o:Oper}(h:∀t,t∈kX o.op++HB ops o→f t=S.r t):sX C (S.withR f) ops o=sX C S ops o:=by
 obtain⟨h1,h2⟩:=iX h;unfold sX;rw[asJ h2];split
 ·rfl
 ·cases oP S ops o with
  |none=>rfl
  |some gs=>
   simp only[kP];split
   ·exact apW h1
   ·rw[apX h1]
theorem aAY {S:St}{t:Nat}{s:Sh}(h:S.r t=s)(hs:mI s=true):wN S t t=some (S,[]):=by
 unfold wN;rw[h];cases s<;>first|rfl|cases hs
theorem apY {ops:Array Oper}{o:Oper}{q:Sh×List PI}(h:sX C S ops o=some q):oH C S ops o=some (mY S o q.1,q.2):=by
 unfold sX at h;split at h
 case h_1=>cases h
 rename_i jT;simp only[ax] at h;obtain⟨gs,dG,h⟩:=h;have hY:xI C S ops o=none:=by
  unfold xI;rw[jT];split<;>first|rfl|(rename_i hx;cases hx;done)|(rename_i hx _;cases hx;done)
 have fin:∀{S':St},pre C S gs o.op++pv C S gs o=[]→core C S gs o=some (S',q.2)→ji C (post C S' o) S'=some (S',[])→iL gs o.dst q.2=true→oH C S ops o=some (S',q.2):=by
  intro S' h1 h2 h3 h4;unfold oH xH BZ;rw[hY,dG];simp only[kP,h1,ji,h2,h3,h4,cond_true,sH,mc]
 cases hd:o.dst with
 |some dst=>
  simp only[hd] at h;have cL:mY S o q.1=S.setR dst q.1:=by unfold mY;rw[hd]
  rw[cL];unfold Cr at h;split at h
  ·rename_i x bP;split at h
   case h_2=>cases h
   cases hb:(C.fr.any (Nat.beq dst)&&(cm S [] [x]).isEmpty)<;>simp only[hb,cond_true,cond_false] at h
   ·cases h
   simp only[ar] at hb;split at h
   case h_2=>cases h
   rename_i r hr;cases aau:mI r.1<;>simp only[aau,cond_true,cond_false] at h
   ·cases h
   cases h;have he:=re.1 hb.2;refine fin ?_ ?_ ?_ rfl
   ·rw[bP];unfold pv;rw[bP,hd];simp only[hb.1,he,cond_true,pre,tW,FN,mc]
   ·unfold core;rw[hd];simp only[bP,nN,hb.1,cond_true,hr]
   ·unfold post;rw[bP,hd];simp only[ji,Gh.run];rw[aAY (s:=q.1) (by simp[St.setR,aU]) aau];rfl
  ·rename_i c bP;have P2:pre C S gs o.op++pv C S gs o=[]:=by
        rw[bP];unfold pv;rw[bP];simp[pre,tW]
   have jQ:∀S':St,ji C (post C S' o) S'=some (S',[]):=fun S'=>by
        unfold post;rw[bP];rfl
   split at h
   ·rename_i r hr;cases hb:(qz r.1&&iL gs (some dst) r.2)<;>simp only[hb,cond_true,cond_false] at h
    ·cases h
    cases h;simp only[ar] at hb;refine fin P2 ?_ (jQ _) (by rw[hd];exact hb.2);unfold core;rw[hd];simp only[bP,hr,hb.1,cond_true]
   ·rename_i hr;cases he:(cm S gs c.args.toList).isEmpty<;>simp only[he,cond_true,cond_false] at h
    ·cases h
    have kR:=re.1 he;have sfz:∀b:Bool,(bif b then S else S.fzs (cm S gs c.args.toList))=S:=fun b=>by rw[kR];cases b<;>rfl
    split at h
    ·rename_i f hc;split at h
     case h_2=>cases h
     rename_i r fp;cases hb:iL gs (some dst) r.2.2<;>simp only[hb,cond_true,cond_false] at h
     ·cases h
     cases h;refine fin P2 ?_ (jQ _) (by rw[hd];exact hb);have hS:r.1=S:=by
      simp only[oK,ax] at fp;obtain⟨s,hs,fp⟩:=fp;split at fp
      case h_2=>cases fp
      simp only[ax] at fp;obtain⟨u,hu,fp⟩:=fp;cases cn:Ty.subs u.1 s.args<;>simp only[cn,cond_true,cond_false] at fp
      ·cases fp
      cases fp;exact sfz _
     unfold core;rw[hd];simp only[bP,hr,hc,fp,hS]
    ·rename_i x PH hc;split at h
     case h_2=>cases h
     rename_i r fp;cases hb:iL gs (some dst) r.2.2<;>simp only[hb,cond_true,cond_false] at h
     ·cases h
     cases h;refine fin P2 ?_ (jQ _) (by rw[hd];exact hb);have hS:r.1=S:=by
      unfold ns at fp;split at fp
      case h_2=>cases fp
      rename_i aa r0 e Qn;split at fp
      case h_1=>cases fp
      simp only[ax] at fp;obtain⟨u,hu,fp⟩:=fp;cases cn:Ty.subs u.1 aa<;>simp only[cn,cond_true,cond_false] at fp
      ·cases fp
      cases fp;exact sfz _
     unfold core;rw[hd];simp only[bP,hr,hc];cases x with
     |func f=>exact absurd rfl (PH f)
     |_=>simp only[fp,hS]
    ·cases h
  ·rename_i hna dq;cases hb:(mm o.op&&(pre C S gs o.op).isEmpty)<;>simp only[hb,cond_true,cond_false] at h
   ·cases h
   simp only[ar] at hb;split at h
   case h_2=>cases h
   rename_i r hr;cases dm:(qz r.1&&iL gs (some dst) r.2)<;>simp only[dm,cond_true,cond_false] at h
   ·cases h
   cases h;simp only[ar] at dm;have da:pv C S gs o=[]:=by
        unfold pv;split
        ·rename_i x t e _;exact absurd e (hna x)
        ·rfl
   have jQ:∀S':St,ji C (post C S' o) S'=some (S',[]):=fun S'=>by
        have:post C S' o=[]:=by
         unfold post;split
         ·rename_i x t e _;exact absurd e (hna x)
         ·rename_i T t e _;rw[e] at hb;simp[mm] at hb
         ·rename_i T x v e;rw[e] at hb;simp[mm] at hb
         ·rfl
        rw[this];rfl
   refine fin (by rw[da,re.1 hb.2];rfl) ?_ (jQ _) (by rw[hd];exact dm.2);unfold core;rw[hd];simp only[hr,dm.1,cond_true]
 |none=>
  simp only[hd,aH] at h;obtain⟨l,h,rfl⟩:=h;have cL:mY S o (.none:Sh)=S:=by unfold mY;rw[hd]
  show oH C S ops o=some (mY S o .none,l);rw[cL];have da:pv C S gs o=[]:=by unfold pv;rw[hd];split<;>first|rfl|(rename_i hx;cases hx)
  unfold Cs at h;split at h
  ·rename_i T x v bP;split at h
   case h_2=>cases h
   rename_i j ver size off kq;cases he:(cm S [] [v]).isEmpty<;>simp only[he,cond_true,cond_false] at h
   ·cases h
   simp only[aH] at h;obtain⟨r,hr,rfl⟩:=h;have hS:r.1=S:=by
        unfold sS at hr;split at hr
        case h_2=>cases hr
        rw[kq] at hr;simp only at hr;cases hv:Nat.beq ver (S.ver j)<;>simp only[hv,cond_true,cond_false] at hr
        ·cases hr
        split at hr
        ·revert hr;generalize (_&&_:Bool)=b;intro hr;cases b<;>simp only[cond_true,cond_false] at hr<;>cases hr;rfl
        ·revert hr;generalize (_&&_:Bool)=b;intro hr;cases b<;>simp only[cond_true,cond_false] at hr<;>cases hr;rfl
        ·cases hr
   refine fin ?_ ?_ ?_ rfl
   ·rw[da,bP];simp only[pre,tW,kq,re.1 he,FN,mc]
   ·unfold core;rw[hd];simp only[bP,hr];rw[←hS]
   ·unfold post;rw[bP];simp only[kq];rfl
  ·rename_i T m k v bP;cases he:(cm S [] [k,v]).isEmpty<;>simp only[he,cond_true,cond_false] at h
   ·cases h
   simp only[aH] at h;obtain⟨r,hr,rfl⟩:=h;have hS:r.1=S:=by
        unfold rq at hr;split at hr
        ·rename_i K _ j ver _ _;cases hv:Nat.beq ver (S.ver j)<;>simp only[hv,cond_true,cond_false] at hr
         ·cases hr
         split at hr
         ·revert hr;generalize (_&&_:Bool)=b;intro hr;cases b<;>simp only[cond_true,cond_false] at hr<;>cases hr;rfl
         ·cases hr
        ·cases hr
   refine fin ?_ ?_ ?_ rfl
   ·rw[da,bP];simp only[pre,tW,re.1 he,FN,mc]
   ·unfold core;rw[hd];simp only[bP,hr];rw[←hS]
   ·unfold post;rw[bP];rfl
  ·rename_i x bP;cases h;refine fin ?_ ?_ ?_ rfl
   ·rw[da,bP];rfl
   ·unfold core;rw[hd];simp only[bP]
   ·unfold post;rw[bP];rfl
  ·cases h
end
def fe (ops:Array Oper)(shs:List Sh)(l:List Nat)(f:Nat→Sh):Nat→Sh:=
 l.foldl (fun f i=>match(ops[i]?).bind (·.dst) with|some d=>cf f d (shs.getD i .none)|none=>f) f
def xS (C:Ctx)(S:St)(ops:Array Oper):Nat→Option (List (Sh×List PI))
 |0=>some []
 |k+1=>(xS C S ops k).bind fun q=>match ops[k]? with
  |some o=>(sX C (S.withR (fe ops (q.map (·.1)) (List.range k) S.r)) ops o).map fun r=>q++[r]
  |none=>none
def dy (ops:Array Oper):Nat→List Nat
 |0=>[]
 |k+1=>dy ops k++[match ops[k]? with
  |some o=>o.after.toList.foldr (fun e m=>bif Region.binds .any e then Nat.lor (Nat.lor (dE e.on) ((dy ops k).getD e.on 0)) m else m) 0
  |none=>0]
def ag0 (ops:Array Oper)(o:Oper):List Nat:=kX o.op++HB ops o
def ZQ (ops:Array Oper)(nc:List (List Nat))(clo:List Nat)(i:Nat):Bool:=
 match ops[i]? with
 |some o=>(nc.getD i []).all (aw (clo.getD i 0))&&(o.after.toList.all fun e=> !Region.binds .any e||Nat.blt e.on i)&&
   (ag0 ops o).all fun t=>(List.range ops.size).all fun j=>match(ops[j]?).bind (·.dst) with
     |some d=> !Nat.beq d t||((Nat.blt j i&&aw (clo.getD i 0) j)||aw (clo.getD j 0) i)
     |none=>true
 |none=>false
def Hx (ops:Array Oper)(i:Nat):Bool:=match ops[i]? with|some o=>o.after.toList.all fun e=> !Region.binds .any e||Nat.blt e.on i|none=>false
def Ct (ops:Array Oper)(nc:List (List Nat))(clo:List Nat)(m:Nat):Bool:=(List.range m).all (ZQ ops nc clo)&&(List.range ops.size).all (Hx ops)
def oe (clo:List Nat):Nat→Nat
 |0=>0
 |k+1=>bif (List.range k).all (aw (clo.getD k 0)) then oe clo k else k+1
theorem ahD (clo:List Nat):∀k,oe clo k≤k
 |0=>bk _
 |k+1=>by
  unfold oe;cases(List.range k).all (aw (clo.getD k 0)) with
  |true=>exact Nat.le_succ_of_le (ahD clo k)
  |false=>exact bk _
theorem ahC (clo:List Nat):∀k i,oe clo k≤i→i<k→∀j,j<i→aw (clo.getD i 0) j=true
 |0,i,_,h=>by omega
 |k+1,i,h1,h2=>by
  unfold oe at h1;cases hb:(List.range k).all (aw (clo.getD k 0)) with
  |true=>
   rw[hb] at h1;by_cases e:i=k
   ·subst e;exact fun j hj=>bL.1 hb j (cd.2 hj)
   ·exact ahC clo k i h1 (by omega)
  |false=>rw[hb] at h1;simp only[cond_false] at h1;omega
def ZR (C:Ctx)(ops:Array Oper)(S:St):Option (St×List PI):=
 (xS C S ops (oe (dy ops ops.size) ops.size)).bind fun q=>
    bif Ct ops (ph (q.map (·.2)) (oe (dy ops ops.size) ops.size)) (dy ops ops.size) (oe (dy ops ops.size) ops.size) then
     (nr C ops (List.range' (oe (dy ops ops.size) ops.size) (ops.size-oe (dy ops ops.size) ops.size)) (S.withR (fe ops (q.map (·.1)) (List.range (oe (dy ops ops.size) ops.size)) S.r))).map fun r=>(r.1,(q.map (·.2)).flatten++r.2)
    else none
theorem Mx (ops:Array Oper)(shs:List Sh)(i:Nat)(l:List Nat)(f:Nat→Sh):fe ops shs (i::l) f=fe ops shs l (match(ops[i]?).bind (·.dst) with|some d=>cf f d (shs.getD i .none)|none=>f):=rfl
theorem Fh {ops:Array Oper}{shs:List Sh}{t:Nat}:∀{l:List Nat} {f:Nat→Sh},(∀i,i∈l→(ops[i]?).bind (·.dst)≠some t)→fe ops shs l f t=f t
 |[],_,_=>rfl
 |i::l,f,h=>by
  rw[Mx,Fh fun j hj=>h j (dj _ hj)];have:=h i (dw ..);cases hd:(ops[i]?).bind (·.dst) with
  |none=>rfl
  |some d=>exact bz _ _ (fun e=>this (by rw[hd,e]))
def Nc (ops:Array Oper):Prop:=∀(i j t:Nat),(ops[i]?).bind (·.dst)=some t→(ops[j]?).bind (·.dst)=some t→i=j
theorem Mw {ops:Array Oper}(ho:Nc ops){shs:List Sh}{t i:Nat}(ht:(ops[i]?).bind (·.dst)=some t):∀{l:List Nat} {f:Nat→Sh},i∈l→fe ops shs l f t=shs.getD i .none
 |[],_,h=>nomatch h
 |j::l,f,h=>by
  rw[Mx];by_cases hl:i∈l
  ·exact Mw ho ht hl
  ·have e:i=j:=(cG.1 h).resolve_right hl;subst e;rw[Fh fun k hk e=>hl (by rw[ho i k t ht e];exact hk),ht];exact aU _ _ _
theorem ahv {ops:Array Oper}(ho:Nc ops){shs Uz:List Sh}{l m:List Nat}{f:Nat→Sh}{t:Nat}(h1:∀i,(ops[i]?).bind (·.dst)=some t→(i∈l↔i∈m))(h2:∀i,i∈l→(ops[i]?).bind (·.dst)=some t→shs.getD i .none=Uz.getD i .none):fe ops shs l f t=fe ops Uz m f t:=by
 by_cases hh:∃i,i∈l∧(ops[i]?).bind (·.dst)=some t
 ·obtain⟨i,hi,ht⟩:=hh;rw[Mw ho ht hi,Mw ho ht ((h1 i ht).1 hi),h2 i hi ht]
 ·rw[Fh fun i hi e=>hh ⟨i,hi,e⟩,Fh fun i hi e=>hh ⟨i,(h1 i e).2 hi,e⟩]
theorem ay1 {ops:Array Oper}(h:(ops.toList.filterMap (·.dst)).Nodup):Nc ops:=by
 intro i j t hi hj;rw[ax] at hi hj;obtain⟨oi,h1,h2⟩:=hi;obtain⟨oj,h3,h4⟩:=hj;by_cases e:i=j
 ·exact e
 ·exact(u7.dst_once h h1 h3 h2 h4 e).elim
theorem OM {C:Ctx}{S:St}{ops:Array Oper}:∀{k:Nat} {q:List (Sh×List PI)},xS C S ops k=some q→q.length=k∧∀i,i<k→∃o,ops[i]?=some o∧
 sX C (S.withR (fe ops (q.map (·.1)) (List.range i) S.r)) ops o=some ((q.map (·.1)).getD i .none,(q.map (·.2)).getD i [])
 |0,q,h=>by simp only[xS,bf] at h;subst h;exact⟨rfl,fun i hi=>by omega⟩
 |k+1,q,h=>by
  simp only[xS,ax] at h;obtain⟨p,hp,h⟩:=h;split at h
  case h_2=>cases h
  rename_i o ho;simp only[aH] at h;obtain⟨r,hr,rfl⟩:=h;obtain⟨l1,aV⟩:=OM hp;have same:∀i,i≤k→fe ops ((p++[r]).map (·.1)) (List.range i) S.r=fe ops (p.map (·.1)) (List.range i) S.r:=by
   intro i hi;have key:∀(l:List Nat) (f:Nat→Sh),(∀j,j∈l→j<p.length)→fe ops ((p++[r]).map (·.1)) l f=fe ops (p.map (·.1)) l f:=by
    intro l
    induction l with
    |nil=>intro f _;rfl
    |cons j l ih=>
     intro f hl;have hj:=hl j (dw ..);have e:((p++[r]).map (·.1)).getD j .none=(p.map (·.1)).getD j .none:=by
       rw[me,aS,jA (by simpa using hj),←aS]
     rw[Mx,Mx,e,ih _ fun m hm=>hl m (dj _ hm)]
   exact key _ _ fun j hj=>by have:=cd.1 hj;omega
  refine⟨by simp[l1],fun i hi=>?_⟩;by_cases e:i=k
  ·subst e;refine⟨o,ho,?_⟩;rw[same i (bk _),hr];have e1:((p++[r]).map (·.1)).getD i .none=r.1:=by
    rw[me,aS,kN (by simp[l1])];simp[l1]
   have e2:((p++[r]).map (·.2)).getD i []=r.2:=by
    rw[me,aS,kN (by simp[l1])];simp[l1]
   rw[e1,e2]
  ·obtain⟨o',h1,h2⟩:=aV i (by omega);refine⟨o',h1,?_⟩;rw[same i (by omega),h2];have:i<p.length:=by omega
   simp only[me,aS];rw[jA (by simpa using this),jA (by simpa using this)]
theorem Hj (ops:Array Oper):∀k,(dy ops k).length=k
 |0=>rfl
 |k+1=>by simp[dy,Hj ops k]
theorem Zd (ops:Array Oper){k m i:Nat}(h:i<k)(hm:k≤m):(dy ops m).getD i 0=(dy ops k).getD i 0:=by
 induction m with
 |zero=>omega
 |succ m ih=>
  by_cases e:k=m+1
  ·rw[e]
  ·rw[←ih (by omega)];simp only[dy,aS];rw[jA (by rw[Hj];omega)]
theorem Hk {ops:Array Oper}{N i m:Nat}{o:Oper}(hi:i<N)(ho:ops[i]?=some o)(ah:(o.after.toList.all fun e=> !Region.binds .any e||Nat.blt e.on i)=true)(h:aw ((dy ops N).getD i 0) m=true):
 ∃e,e∈o.after.toList∧Region.binds .any e=true∧(m=e.on∨aw ((dy ops N).getD e.on 0) m=true):=by
 rw[Zd ops (k:=i+1) (by omega) (by omega)] at h
 have e1:(dy ops (i+1)).getD i 0=o.after.toList.foldr (fun e m=>bif Region.binds .any e then Nat.lor (Nat.lor (dE e.on) ((dy ops i).getD e.on 0)) m else m) 0:=by
  simp only[dy,aS];rw[kN (by rw[Hj];exact bk _),Hj];simp[ho]
 rw[e1] at h;have aV:=bL.1 ah;generalize o.after.toList=l at h aV
 induction l with
 |nil=>rw[rl] at h;simp at h
 |cons e l ih=>
  simp only[List.foldr_cons] at h;cases hb:Region.binds .any e<;>rw[hb] at h<;>simp only[cond_true,cond_false] at h
  ·obtain⟨e',h1,h2⟩:=ih h (fun x hx=>aV x (dj _ hx));exact⟨e',dj _ h1,h2⟩
  ·rw[eO,eO,gB,gB] at h;have oV:e.on<i:=by
        have:=aV e (dw ..);rw[hb] at this;simpa [iy] using this
   rcases h with(h|h)|h
   ·refine⟨e,dw ..,hb,.inl ?_⟩;have:=iI 0 e.on m;have z:aw 0 m=false:=by rw[rl];simp
    rw[eO,z,pO,pO,h] at this;exact(cK this.symm).symm
   ·refine⟨e,dw ..,hb,.inr ?_⟩;rw[Zd ops oV (by omega)];exact h
   ·obtain⟨e',h1,h2⟩:=ih h (fun x hx=>aV x (dj _ hx));exact⟨e',dj _ h1,h2⟩
section
variable {C:Ctx} {S:St} {ρ:Env} {σ:Im} {own:Nat→Option Nat} {hv:Nat→Value} {w0:World} {σ0:Base} {A:Nat→Prop} {a:Act} {w:World} {n:Nat} {ids:List Nat} {Φ:aT}
theorem ag1 {ops:Array Oper}{listed:Array Bool}{E:Nat}(aR:listed.size=ops.size)(hl:∀i,listed.getD i false=aw E i)(i:Nat):i∈Region.ready .any ops listed↔i∈lg ops E:=by
 unfold Region.ready lg;simp only[cQ,cd];refine and_congr_right fun hi=>?_;have h1:listed.getD i true=aw E i:=by
  rw[←hl i];simp only[dO];rw[fh (by omega)];rfl
 have h2:ops[i]?=some ops[i]:=fh hi;rw[h1,h2];simp only[jF,jE,←Xc,hl]
def uo (ops:Array Oper)(E:Nat):Nat→Prop:=fun t=>∃i o,aw E i=true∧ops[i]?=some o∧o.dst=some t
def qW (ops:Array Oper)(E:Nat):Nat:=((List.range ops.size).filter fun i=> !aw E i).length
theorem aD4 {ops:Array Oper}{E i:Nat}(hi:i<ops.size)(hb:aw E i=false):qW ops E=qW ops (Nat.lor E (dE i))+1:=by
 unfold qW;obtain⟨l1,l2,hl⟩:=Xn (cd.2 hi);have bp:=M5 (n:=ops.size);rw[hl,Ar] at bp;obtain⟨_,h2,h3⟩:=bp;rw[m8] at h2;have g1:∀j,j∈l1→j≠i:=fun j hj=>h3 j hj i (dw ..);have g2:∀j,j∈l2→j≠i:=fun j hj e=>h2.1 (e▸hj)
 have c:∀l:List Nat,(∀j,j∈l→j≠i)→(l.filter fun j=> !aw (Nat.lor E (dE i)) j)=l.filter fun j=> !aw E j:=by
  intro l hl;apply Xs;intro j hj;rw[iI,eu (fun e=>hl j hj e.symm),w9]
 have df:aw (Nat.lor E (dE i)) i=true:=by rw[iI,gY,m6]
 rw[hl];simp only[Ap,FH,c l1 g1,c l2 g2,hb,df,q8,Bool.not_false,if_true,uG,if_false,j4,pS];omega
theorem ap1 {rd:Option Nat}(hC:CtxOK C σ0)(bn:dD C)(hΦ:de C Φ)(hY:oB C Φ w0 σ0){a0:Act}(PD:a0.tmps.size=n){ops:Array Oper}(aE:qN n ops=true)(eV:xW ops=true){m:Nat}(hm:m≤ops.size){q:List (Sh×List PI)}(hq:xS C S ops m=some q)
 (tu:Ct ops (ph (q.map (·.2)) m) (dy ops ops.size) m=true) (yC:∀i,m≤i→i<ops.size→∀j,j<i→aw ((dy ops ops.size).getD i 0) j=true) {Q:Exit→Act→World→Prop} {ρ':Env}
 (hK:∀listed a' w',listed.size=ops.size→(∀i,listed.getD i false=decide (i<m))→SameBut (p9 ops) a0 a'→Good C w0 σ0 (S.withR (fe ops (q.map (·.1)) (List.range m) S.r)) ρ' (lh ops (List.range m)) a' w'→wpAnyIn (FR rd) 0 C.P .any ops Q (ops.size-m) listed a' w'):
 ∀(k E:Nat) (listed:Array Bool) (ρ:Env) (a:Act) (w:World),qW ops E=k→(∀j,aw E j=true→j<m)→(∀j,j<ops.size→aw E j=true→∀m,aw ((dy ops ops.size).getD j 0) m=true→aw E m=true)→listed.size=ops.size→(∀i,listed.getD i false=aw E i)→SameBut (p9 ops) a0 a→
  Good C w0 σ0 (S.withR (fe ops (q.map (·.1)) ((List.range m).filter (aw E)) S.r)) ρ (uo ops E) a w→PI.runs Φ (eg (q.map (·.2)) (List.range m) E) ρ=some ρ'→wpAnyIn (FR rd) 0 C.P .any ops Q k listed a w:=by
 have Ik:=aE;simp only[qN,ar] at aE;have bp:=mP aE.1;have PV:=ay1 bp;obtain⟨hlen,aV⟩:=OM hq;unfold Ct at tu;rw[ar] at tu
 have CE:∀i,i<ops.size→∀o,ops[i]?=some o→(o.after.toList.all fun e=> !Region.binds .any e||Nat.blt e.on i)=true:=by
  intro i hi o ho;have:=bL.1 tu.2 i (cd.2 hi);unfold Hx at this;rw[ho] at this;exact this
 have auH:∀i,i<m→∀o,ops[i]?=some o→((ph (q.map (·.2)) m).getD i []).all (aw ((dy ops ops.size).getD i 0))=true∧
  ∀t,t∈ag0 ops o→∀j,j<ops.size→(ops[j]?).bind (·.dst)=some t→(j<i∧aw ((dy ops ops.size).getD i 0) j=true)∨aw ((dy ops ops.size).getD j 0) i=true:=by
  intro i hi o ho;have:=bL.1 tu.1 i (cd.2 hi);unfold ZQ at this;rw[ho] at this;simp only[ar] at this;refine⟨this.1.1,fun t ht j hj hd=>?_⟩;have:=bL.1 (bL.1 this.2 t ht) j (cd.2 hj);rw[hd] at this;simp only[gY,q8,pO,gB,ar,iy] at this;exact this
 have XM:∀(k E:Nat) (listed:Array Bool) (ρ:Env) (a:Act) (w:World),(∀i,i<m→aw E i=true)→qW ops E=k→(∀j,aw E j=true→j<m)→listed.size=ops.size→(∀i,listed.getD i false=aw E i)→SameBut (p9 ops) a0 a→
  Good C w0 σ0 (S.withR (fe ops (q.map (·.1)) ((List.range m).filter (aw E)) S.r)) ρ (uo ops E) a w→PI.runs Φ (eg (q.map (·.2)) (List.range m) E) ρ=some ρ'→wpAnyIn (FR rd) 0 C.P .any ops Q k listed a w:=by
  intro k E listed ρ a w jM hk vC aR hl hn hg ao;have hb:∀i,aw E i=decide (i<m):=by
   intro i;by_cases h:i<m
   ·rw[jM i h,decide_eq_true h]
   ·rw[decide_eq_false h];cases hb:aw E i with
    |false=>rfl
    |true=>exact absurd (vC i hb) h
  have Pg:eg (q.map (·.2)) (List.range m) E=[]:=by
   unfold eg;rw[aiU];intro i hi;rw[jM i (cd.1 hi)];rfl
  rw[Pg] at ao;simp only[PI.runs,bf] at ao;subst ao;have atn:qW ops E=ops.size-m:=by
   unfold qW
   have key:∀N,m≤N→((List.range N).filter fun i=> !aw E i).length=N-m:=by
        intro N
        induction N with
        |zero=>intro _;simp
        |succ N ih=>
         intro hN;rw[List.range_succ,Ap,j4];by_cases h:m≤N
         ·rw[ih h];simp[hb N,Nat.not_lt.2 h];omega
         ·have:m=N+1:=by omega
          have e:(List.range N).filter (fun i=> !aw E i)=[]:=by
           rw[List.filter_eq_nil_iff];intro i hi;rw[jM i (by have:=cd.1 hi;omega)];simp
          have hN':aw E N=true:=jM N (by omega);rw[e];simp[hN'];omega
   exact key _ hm
  have ef:(List.range m).filter (aw E)=List.range m:=List.filter_eq_self.2 fun i hi=>jM i (cd.1 hi);rw[ef] at hg;have oX:uo ops E=lh ops (List.range m):=by
   funext t;apply propext;constructor
   ·rintro⟨i,o,h1,h2,h3⟩;exact⟨i,o,cd.2 (vC i h1),h2,h3⟩
   ·rintro⟨i,o,h1,h2,h3⟩;exact⟨i,o,jM i (cd.1 h1),h2,h3⟩
  rw[oX] at hg;rw[←hk,atn];exact hK listed a w aR (fun i=>by rw[hl i,hb i]) hn hg
 intro k
 induction k with
 |zero=>
  intro E listed ρ a w hk vC HS aR hl hn hg ao;refine XM 0 E listed ρ a w (fun i hi=>?_) hk vC aR hl hn hg ao;cases hb:aw E i with
  |true=>rfl
  |false=>
   have:i∈(List.range ops.size).filter fun i=> !aw E i:=cQ.2 ⟨cd.2 (by omega),by rw[hb];rfl⟩;unfold qW at hk;rw[List.length_eq_zero_iff.1 hk] at this;cases this
 |succ k ih=>
  intro E listed ρ a w hk vC HS aR hl hn hg ao;by_cases jM:∀i,i<m→aw E i=true
  ·exact XM (k+1) E listed ρ a w jM hk vC aR hl hn hg ao
  refine⟨fun he=>?_,fun i hi=>?_⟩
  ·
   obtain⟨i,hi,yr⟩:∃i,(i<m∧aw E i=false)∧∀j,j<i→aw E j=true:=by
        have hex:∃i,i<m∧aw E i=false:=by
         refine Am fun dX=>jM fun i hi=>?_;cases hb:aw E i with
         |true=>rfl
         |false=>exact absurd ⟨i,hi,hb⟩ dX
        obtain⟨i,hi⟩:=hex
        induction i using Nat.strongRecOn with
        |ind i lQ=>
         by_cases hh:∃j,j<i∧aw E j=false
         ·obtain⟨j,hj,hb⟩:=hh;exact lQ j hj ⟨by omega,hb⟩
         ·refine⟨i,hi,fun j hj=>?_⟩;cases hb:aw E j with
          |true=>rfl
          |false=>exact absurd ⟨j,hj,hb⟩ hh
   have nA:i<ops.size:=by omega
   have ho:ops[i]?=some ops[i]:=fh nA;have cV:i∈lg ops E:=by
        unfold lg;simp only[cQ,cd,ar,iw,ho];refine⟨nA,hi.2,?_⟩;rw[bL];intro e jn;have:=bL.1 (CE i nA _ ho) e jn;cases hb:Region.binds .any e with
        |false=>rfl
        |true=>
         rw[hb] at this;simp only[q8,pO,iy] at this;rw[yr _ this];rfl
   rw[←ag1 aR hl,he] at cV;cases cV
  ·rw[ag1 aR hl] at hi;unfold lg at hi;simp only[cQ,cd,ar,iw] at hi;obtain⟨bJ,dp,th⟩:=hi;have ho0:ops[i]?=some ops[i]:=fh bJ;generalize ops[i]=o at ho0;have ho:=ho0;rw[ho] at th;simp only at th;have o2:=CE i bJ o ho;have yg:∀m,aw ((dy ops ops.size).getD i 0) m=true→aw E m=true:=by
        intro m hm;obtain⟨e,ib,kh,Pf⟩:=Hk bJ ho o2 hm;have hE:aw E e.on=true:=by
         have:=bL.1 th e ib
         rwa [kh,q8,pO] at this
        rcases Pf with rfl|Pf
        ·exact hE
        ·have oV:e.on<i:=by
          have:=bL.1 o2 e ib;rw[kh] at this;simpa [iy] using this
         exact HS e.on (by omega) hE m Pf
   have km:i<m:=by
        refine Am fun dX=>jM fun j hj=>?_;exact yg j (yC i (by omega) bJ j (by omega))
   obtain⟨o',dQ,kl⟩:=aV i km;rw[ho] at dQ;cases dQ;obtain⟨o1,o3⟩:=auH i km o ho;have dq:((ph (q.map (·.2)) m).getD i []).all (aw E)=true:=by
        rw[bL] at o1 ⊢;exact fun m hm=>yg m (o1 m hm)
   have atq:sX C (S.withR (fe ops (q.map (·.1)) ((List.range m).filter (aw E)) S.r)) ops o=some ((q.map (·.1)).getD i .none,(q.map (·.2)).getD i []):=by
        rw[←kl];refine apZ (S:=S.withR (fe ops (q.map (·.1)) (List.range i) S.r)) fun t ht=>?_;refine ahv PV (fun j hj=>?_) (fun _ _ _=>rfl);have fJ:j<ops.size:=by
         rw[ax] at hj;obtain⟨oj,h1,_⟩:=hj;exact(fU.1 h1).1
        rw[cQ,cd,cd];rcases o3 t ht j fJ hj with⟨h1,h2⟩|h1
        ·exact⟨fun _=>h1,fun _=>⟨by omega,yg j h2⟩⟩
        ·constructor
         ·rintro⟨_,oQ⟩;have:=HS j fJ oQ i h1;rw[dp] at this;cases this
         ·intro gK;exfalso;have key:∀m j,j<ops.size→aw ((dy ops ops.size).getD j 0) m=true→m<j:=by
           intro m j
           induction j using Nat.strongRecOn with
           |ind j lQ=>
            intro hj hm;have qo:ops[j]?=some ops[j]:=fh hj;have p2:=CE j hj _ qo;obtain⟨e,e1,e2,e3⟩:=Hk hj qo p2 hm;have oV:e.on<j:=by
                have:=bL.1 p2 e e1;rw[e2] at this;simpa [iy] using this
            rcases e3 with rfl|e3
            ·exact oV
            ·have:=lQ e.on oV (by omega) e3;omega
          have:=key i j fJ h1;omega
   have hcp:=apY atq;rw[ag8 km dp dq,ax] at ao;obtain⟨ρ1,hρ1,hρ2⟩:=ao;have vq:∀d,o.dst=some d→¬uo ops E d∧d<a.tmps.size:=by
        intro d hd;refine⟨fun⟨i',o',df,dQ,eU⟩=>?_,?_⟩
        ·have aB:i'≠i:=fun e=>by subst e;rw[dp] at df;cases df
         exact u7.dst_once bp dQ ho eU hd aB
        ·have:=bL.1 aE.2 o (by simpa using gA ho);simp only[hd,ar] at this;rw[hn.size,PD];simpa [iy] using this.2
   have jo:nL o.op=true:=by
        have:=bL.1 aE.2 o (by simpa using gA ho);simp only[ar] at this;exact this.1
   have hj:∀j want t,o.guard=some (j,want)→(ops[j]?).bind (·.dst)=some t→uo ops E t:=by
        intro j want t jN ht;rw[ax] at ht;obtain⟨oj,h1,h2⟩:=ht;have tl:=bL.1 eV o (by simpa using gA ho);simp only[jN] at tl;obtain⟨e,ib,kh⟩:=sF.1 tl;simp only[ar] at kh;have h3:=bL.1 th e ib;rw[kh.1] at h3;simp only[q8,pO] at h3;exact⟨j,oj,by rw[←cK kh.2];exact h3,h1,h2⟩
   have atm:∀j,j<ops.size→aw (Nat.lor E (dE i)) j=true→∀m,aw ((dy ops ops.size).getD j 0) m=true→aw (Nat.lor E (dE i)) m=true:=by
        intro j hj oQ m hm;rw[iI,gB] at oQ;rw[iI,gB];rcases oQ with oQ|oQ
        ·exact .inl (HS j hj oQ m hm)
        ·rw[←cK oQ] at hm;exact .inl (yg m hm)
   have main:=Hl (rd:=rd) (K:=wpAnyIn (FR rd) 0 C.P .any ops Q k (listed.setIfInBounds i true)) (Q:=Q) hg hC bn hΦ hY jo vq hj hcp hρ1 (fun a' w' fm qu=>by
        have hA:(fun u=>uo ops E u∨o.dst=some u)=uo ops (Nat.lor E (dE i)):=by
         funext u;apply propext;constructor
         ·rintro(⟨i',o',h1,h2,h3⟩|h1)
          ·exact⟨i',o',by rw[iI,h1,xc],h2,h3⟩
          ·exact⟨i,o,by rw[iI,gY,m6],ho,h1⟩
         ·rintro⟨i',o',h1,h2,h3⟩;rw[iI,gB] at h1;rcases h1 with h1|h1
          ·exact .inl ⟨i',o',h1,h2,h3⟩
          ·rw[←cK h1,ho] at h2;cases h2;exact .inr h3
        rw[hA] at fm;have hSt:mY (S.withR (fe ops (q.map (·.1)) ((List.range m).filter (aw E)) S.r)) o ((q.map (·.1)).getD i .none)=S.withR (fe ops (q.map (·.1)) ((List.range m).filter (aw (Nat.lor E (dE i)))) S.r):=by
         have atL:∀t,(mY (S.withR (fe ops (q.map (·.1)) ((List.range m).filter (aw E)) S.r)) o ((q.map (·.1)).getD i .none)).r t=fe ops (q.map (·.1)) ((List.range m).filter (aw (Nat.lor E (dE i)))) S.r t:=by
          intro t;by_cases HV:o.dst=some t
          ·have hb:(ops[i]?).bind (·.dst)=some t:=by rw[ho];exact HV
           rw[Mw PV hb (cQ.2 ⟨cd.2 km,by rw[iI,gY,m6]⟩)];unfold mY;rw[HV];simp[St.setR,aU]
          ·have e1:(mY (S.withR (fe ops (q.map (·.1)) ((List.range m).filter (aw E)) S.r)) o ((q.map (·.1)).getD i .none)).r t=fe ops (q.map (·.1)) ((List.range m).filter (aw E)) S.r t:=by
            unfold mY;split
            ·rename_i d hd;exact bz _ _ (fun e=>HV (by rw[hd,e]))
            ·rfl
           rw[e1];refine ahv PV (fun j hj=>?_) (fun _ _ _=>rfl);have gK:¬i=j:=fun e=>by subst e;rw[ho] at hj;exact HV hj
           rw[cQ,cQ,iI,eu gK,w9]
         have:∀(X Y:St),X.o=Y.o→X.ver=Y.ver→(∀t,X.r t=Y.r t)→X=Y:=by
          intro X Y h1 h2 h3;cases X;cases Y;simp only at h1 h2 h3;subst h1 h2
          congr 1
          exact funext h3
         refine this _ _ ?_ ?_ atL
         ·unfold mY;split<;>rfl
         ·unfold mY;split<;>rfl
        rw[hSt] at fm;refine ih _ _ ρ1 a' w' (by have:=aD4 bJ dp;omega) (fun j hj=>by rw[iI,gB] at hj;rcases hj with hj|hj;exact vC j hj;rw[←cK hj];exact km) atm (by simpa using aR) (fun j=>?_) (hn.trans (qu.mono fun t e=>⟨o,by simpa using gA ho,e⟩)) fm hρ2;rw[iI];simp only[dO,uF];by_cases cS:i=j
        ·subst cS;simp[aR,bJ]
        ·rw[if_neg cS,eu cS,w9,←hl j];simp only[dO])
   simp only[wpOpIn,ho];split
   ·rename_i hw;rw[if_pos hw] at main;exact main
   ·rename_i hw;rw[if_neg hw] at main;exact⟨fun _ _=>trivial,main⟩
theorem aBF {rd:Option Nat}(hC:CtxOK C σ0)(bn:dD C)(hΦ:de C Φ)(hY:oB C Φ w0 σ0){ops:Array Oper}(aE:qN n ops=true)(eV:xW ops=true)(CE:(List.range ops.size).all (Hx ops)=true){m:Nat}
 (yC:∀i,m≤i→i<ops.size→∀j,j<i→aw ((dy ops ops.size).getD i 0) j=true) {Q:Exit→Act→World→Prop} {ρ':Env}:
 ∀(k i:Nat) {S:St} {ρ:Env} {a:Act} {w:World} {r:St×List PI} (listed:Array Bool),i+k=ops.size→m≤i→listed.size=ops.size→(∀j,listed.getD j false=decide (j<i))→a.tmps.size=n→
  Good C w0 σ0 S ρ (lh ops (List.range i)) a w→nr C ops (List.range' i k) S=some r→PI.runs Φ r.2 ρ=some ρ'→
  (∀a' w',SameBut (p9 ops) a a'→Good C w0 σ0 r.1 ρ' (lh ops (List.range ops.size)) a' w'→Q .normal a' w')→wpAnyIn (FR rd) 0 C.P .any ops Q k listed a w:=by
 have Ik:=aE;simp only[qN,ar] at aE;have bp:=mP aE.1
 have Ni:∀i,i<ops.size→∀o,ops[i]?=some o→(o.after.toList.all fun e=> !Region.binds .any e||Nat.blt e.on i)=true:=by
  intro i hi o ho;have:=bL.1 CE i (cd.2 hi);unfold Hx at this;rw[ho] at this;exact this
 have mem:∀(listed:Array Bool) (i j:Nat),listed.size=ops.size→(∀j,listed.getD j false=decide (j<i))→(j∈Region.ready .any ops listed↔(j<ops.size∧¬j<i∧∀o,ops[j]?=some o→(o.after.toList.all fun e=> !Region.binds .any e||decide (e.on<i))=true)):=by
  intro listed i j aR hl;unfold Region.ready;simp only[cQ,cd];refine and_congr_right fun hj=>?_;have h1:listed.getD j true=decide (j<i):=by
   rw[←hl j];simp only[dO];rw[fh (by omega)];rfl
  have h2:ops[j]?=some ops[j]:=fh hj;rw[h1,h2];simp only[jF,jE,←Xc,hl,ar,iw,decide_eq_false_iff_not,bf,forall_eq']
 intro k
 induction k with
 |zero=>
  intro i S ρ a w r listed hik hmi aR hl hn hg hr ao hQ;simp only[List.range'_zero,nr,bf] at hr;subst hr;rw[mW ao] at hQ;refine⟨?_,hQ a w (.refl _ _) ?_⟩
  ·rw[Xp];intro j hj;rw[mem listed i j aR hl] at hj;exact hj.2.1 (by omega)
  ·have:i=ops.size:=by omega
   rw[←this];exact hg
 |succ k ih=>
  intro i S ρ a w r listed hik hmi aR hl hn hg hr ao hQ;have bJ:i<ops.size:=by omega
  have ho:ops[i]?=some ops[i]:=fh bJ;generalize ops[i]=o at ho;refine⟨fun he=>?_,fun i' df=>?_⟩
  ·have:i∈Region.ready .any ops listed:=by
        rw[mem listed i i aR hl];refine⟨bJ,by omega,fun o' dQ=>?_⟩;rw[bL];intro e jn;have:=bL.1 (Ni i bJ o' dQ) e jn;cases hb:Region.binds .any e with
        |false=>rfl
        |true=>
         rw[hb] at this;simp only[q8,pO,iy] at this;simpa using this
   rw[he] at this;cases this
  ·rw[mem listed i i' aR hl] at df;obtain⟨h1,h2,h3⟩:=df;obtain rfl:i'=i:=by
        refine Am fun aB=>?_;have dQ:ops[i']?=some ops[i']:=fh h1;have yg:=yC i' (by omega) h1 i (by omega);have ah:∀m j,j<ops.size→aw ((dy ops ops.size).getD j 0) m=true→m<j:=by
         intro m j
         induction j using Nat.strongRecOn with
         |ind j lQ=>
          intro hj hm;have qo:ops[j]?=some ops[j]:=fh hj;have p2:=Ni j hj _ qo;obtain⟨e,e1,e2,e3⟩:=Hk hj qo p2 hm;have oV:e.on<j:=by
           have:=bL.1 p2 e e1;rw[e2] at this;simpa [iy] using this
          rcases e3 with rfl|e3
          ·exact oV
          ·have:=lQ e.on oV (by omega) e3;omega
        obtain⟨e,e1,e2,e3⟩:=Hk h1 dQ (Ni i' h1 _ dQ) yg;have h4:=bL.1 (h3 _ dQ) e e1;rw[e2] at h4;simp only[q8,pO,decide_eq_true_eq] at h4;rcases e3 with e3|e3
        ·omega
        ·have:=ah i e.on (by omega) e3;omega
   rw[FO] at hr;simp only[nr,ho] at hr;simp only[ax,aH] at hr;obtain⟨r1,ic,q,hq,rfl⟩:=hr;simp only[oa,ax] at ao;obtain⟨ρ1,hρ1,hρ2⟩:=ao;have vq:∀d,o.dst=some d→¬lh ops (List.range i') d∧d<a.tmps.size:=by
        intro d hd;refine⟨fun⟨i2,o2,vx,ez,dJ⟩=>?_,?_⟩
        ·have aB:i2≠i':=by have:=cd.1 vx;omega
         exact u7.dst_once bp ez ho dJ hd aB
        ·have:=bL.1 aE.2 o (by simpa using gA ho);simp only[hd,ar] at this;rw[hn];simpa [iy] using this.2
   have jo:nL o.op=true:=by
        have:=bL.1 aE.2 o (by simpa using gA ho);simp only[ar] at this;exact this.1
   have hj:∀j want t,o.guard=some (j,want)→(ops[j]?).bind (·.dst)=some t→lh ops (List.range i') t:=by
        intro j want t jN ht;rw[ax] at ht;obtain⟨oj,h1,h2⟩:=ht;have tl:=bL.1 eV o (by simpa using gA ho);simp only[jN] at tl;obtain⟨e,ib,kh⟩:=sF.1 tl;simp only[ar] at kh;have h4:=bL.1 (h3 o ho) e ib;rw[kh.1] at h4;simp only[q8,pO,decide_eq_true_eq] at h4;exact⟨j,oj,cd.2 (by rw[←cK kh.2];exact h4),h1,h2⟩
   have main:=Hl (rd:=rd) (K:=wpAnyIn (FR rd) 0 C.P .any ops Q k (listed.setIfInBounds i' true)) (Q:=Q) hg hC bn hΦ hY jo vq hj ic hρ1 (fun a' w' fm gN=>by
        have:(fun u=>lh ops (List.range i') u∨o.dst=some u)=lh ops (List.range (i'+1)):=by
         funext u;apply propext;constructor
         ·rintro(⟨i2,o2,h1,h2,h3⟩|h1)
          ·exact⟨i2,o2,cd.2 (by have:=cd.1 h1;omega),h2,h3⟩
          ·exact⟨i',o,cd.2 (by omega),ho,h1⟩
         ·rintro⟨i2,o2,g1,g2,g3⟩;by_cases e:i2=i'
          ·rw[e,ho] at g2;cases g2;exact .inr g3
          ·exact .inl ⟨i2,o2,cd.2 (by have:=cd.1 g1;omega),g2,g3⟩
        rw[this] at fm;refine ih (i'+1) _ (by omega) (by omega) (by simpa using aR) (fun j=>?_) (gN.size.trans hn) fm hq hρ2 (fun a2 w2 s2 g2=>hQ a2 w2 ((gN.mono fun t e=>⟨o,by simpa using gA ho,e⟩).trans s2) g2);simp only[dO,uF];by_cases cS:i'=j
        ·subst cS;simp[aR,bJ]
        ·rw[if_neg cS];have:=hl j;simp only[dO] at this;rw[this];by_cases ah:j<i'
         ·rw[decide_eq_true ah,decide_eq_true (by omega:j<i'+1)]
         ·rw[decide_eq_false ah,decide_eq_false (by omega:¬j<i'+1)])
   simp only[wpOpIn,ho];split
   ·rename_i hw;rw[if_pos hw] at main;exact main
   ·rename_i hw;rw[if_neg hw] at main;exact⟨fun _ _=>trivial,main⟩
end
def Mn (C:Ctx)(n:Nat)(ids:List Nat)(ops:Array Oper)(draw:Bool)(S:Snap):Option (Snap×List PI):=
 bif qN n ops then
    bif draw then
     bif xW ops&&RP ops&&C.P.follows .mixedOrders then
        match ZR C ops (S.st ids) with
        |some r=>some (⟨ur (fc r.1) r.1 S.rs (ops.toList.filterMap (·.dst)),ids.map fun j=>gR r.1 (r.1.o j)⟩,r.2)
        |none=>
        (eM C ops (List.range ops.size) (S.st ids)).bind fun X=>CF X fun X=>CF (ph X ops.size) fun nc=>
         (Snap.hard ⟨S.rs.map fun s=>kA (S.st ids) (cu s),ids.map fun j=>gR (S.st ids) ((S.st ids).o j)⟩ fun T0=>Ff ops (rj C.P ops) (Ss C ops n ids X nc) ops.size [(0,T0)]).map fun T=>(⟨T.rs.map (fc (T.stO ids)),ids.map fun j=>gR (T.stO ids) ((T.stO ids).o j)⟩,X.flatten)
     else none
    else bif Z2 ops then(nr C ops (List.range ops.size) (S.st ids)).map fun r=>(⟨ur (fc r.1) r.1 S.rs (ops.toList.filterMap (·.dst)),ids.map fun j=>gR r.1 (r.1.o j)⟩,r.2) else none
 else none
def Mm (C:Ctx)(n:Nat)(ids:List Nat)(ops:Array Oper)(draw:Bool)(S:Snap):Option (Snap×List PI):=
 (Mn C n ids ops draw S).bind fun r=>r.1.hard fun T=>some (T,r.2)
theorem aAS (C:Ctx)(n:Nat)(ids:List Nat)(ops:Array Oper)(draw:Bool)(S:Snap):Mm C n ids ops draw S=Mn C n ids ops draw S:=by
 unfold Mm;cases Mn C n ids ops draw S with
 |none=>rfl
 |some r=>rw[kP,Snap.hard_eq]
def wQ (ops:Array Oper)(E:Nat):Nat→Prop:=fun t=>∃i o,aw E i=true∧ops[i]?=some o∧o.dst=some t
section
variable {C:Ctx} {S:St} {ρ:Env} {σ:Im} {own:Nat→Option Nat} {hv:Nat→Value} {w0:World} {σ0:Base} {A:Nat→Prop} {a:Act} {w:World} {n:Nat} {ids:List Nat} {Φ:aT}
theorem Mj {ops:Array Oper}{listed:Array Bool}{E:Nat}(aR:listed.size=ops.size)(hl:∀i,listed.getD i false=aw E i)(i:Nat):i∈Region.ready .any ops listed↔i∈lg ops E:=by
 unfold Region.ready lg;simp only[cQ,cd];refine and_congr_right fun hi=>?_;have h1:listed.getD i true=aw E i:=by
  rw[←hl i];simp only[dO];rw[fh (by omega)];rfl
 have h2:ops[i]?=some ops[i]:=fh hi;rw[h1,h2];simp only[jF,jE,←Xc,hl]
theorem aBf {rd:Option Nat}(hC:CtxOK C σ0)(bn:dD C)(hΦ:de C Φ)(hY:oB C Φ w0 σ0){a0:Act}(PD:a0.tmps.size=n){ops:Array Oper}(aE:qN n ops=true)(eV:xW ops=true){X:List (List PI)}{Q:Exit→Act→World→Prop}{ρ':Env}(yz:RP ops=true)(hQp:∀c a w,¬Q (.panic c) a w):
 ∀(k:Nat) {L:List (Nat×Snap)} {T:Snap},Ff ops (rj C.P ops) (Ss C ops n ids X (ph X ops.size)) k L=some T→
  (∀a' w',SameBut (p9 ops) a0 a'→Good C w0 σ0 (T.stO ids) ρ' (fun t=>∃E,wQ ops E t) a' w'→Q .normal a' w')→
  ∀(E:Nat) (U:Snap),(E,U)∈L→∀(listed:Array Bool) (ρ:Env) (a:Act) (w:World),listed.size=ops.size→(∀i,listed.getD i false=aw E i)→SameBut (p9 ops) a0 a→
   Good C w0 σ0 (U.stO ids) ρ (wQ ops E) a w→PI.runs Φ (eg X (List.range ops.size) E) ρ=some ρ'→wpAnyIn (FR rd) 0 C.P .any ops Q k listed a w:=by
 simp only[qN,ar] at aE;have bp:=mP aE.1;intro k
 induction k with
 |zero=>
  intro L T hs hQ E U hm listed ρ a w aR hl hn hg ao;simp only[Ff] at hs;split at hs
  case h_2=>cases hs
  rename_i x;cases aV:(List.range ops.size).all (aw x.1)<;>simp only[aV,cond_true,cond_false] at hs
  ·cases hs
  cases hs;simp only[rf] at hm;subst hm;simp only at aV hg hQ ao hl;have jM:=bL.1 aV;have Pg:eg X (List.range ops.size) E=[]:=by
   unfold eg;rw[aiU];intro i hi;rw[jM i hi];rfl
  rw[Pg] at ao;simp only[PI.runs,bf] at ao;subst ao;refine⟨?_,hQ a w hn ?_⟩
  ·rw[Xp];intro i hi;rw[Mj aR hl] at hi;unfold lg at hi;simp only[cQ,ar,iw] at hi;rw[jM i hi.1] at hi;cases hi.2.1
  ·obtain⟨σ,own,hv,h⟩:=hg;exact⟨σ,own,hv,h.defers,h.ok,h.le,h.old,h.newc,h.newm,h.below,h.bw,h.owns,h.regs,h.objs,fun t gs s e=>⟨fun g hm=>⟨E,(h.opts t gs s e).1 g hm⟩,(h.opts t gs s e).2⟩,h.frame⟩
 |succ k ih=>
  intro L T hs hQ E U hm listed ρ a w aR hl hn hg ao;simp only[Ff,ax] at hs;obtain⟨L',hL,hs⟩:=hs;obtain⟨_,cV⟩:=abT hL;obtain⟨aB,Qf⟩:=cV _ hm;have PF:lg ops E≠[]:=fun e=>aB (by unfold oD;rw[e];rfl)
  have cn:∀i,i∈oD ops (rj C.P ops) E→i∈lg ops E:=fun i hi=>by
   unfold oD at hi;split at hi
   ·rename_i i' hp;rw[rf.1 hi];exact(ME hp).1
   ·exact hi
  have step:∀i,i∈oD ops (rj C.P ops) E→∀Q':Exit→Act→World→Prop,wpOpIn (FR rd) 0 C.P ops Q' i (wpAnyIn (FR rd) 0 C.P .any ops Q k (listed.setIfInBounds i true)) a w:=by
   intro i hi Q';obtain⟨y,hy,hyL⟩:=Qf i hi;have hi:=cn i hi;unfold lg at hi;simp only[cQ,cd,ar,iw] at hi;obtain⟨bJ,dp,th⟩:=hi;simp only[Ss] at hy;split at hy
   case h_2=>cases hy
   rename_i o ho;simp only[ax] at hy;obtain⟨r,hr,hy⟩:=hy;cases hc:(PI.beqs r.2 (X.getD i [])&&((ph X ops.size).getD i []).all (aw E))<;>simp only[hc,cond_true,cond_false] at hy
   ·cases hy
   cases hy;simp only[ar] at hc;have hX:=PI.beqs_eq _ _ hc.1;rw[ag8 bJ dp hc.2,ax] at ao;obtain⟨ρ1,hρ1,hρ2⟩:=ao;rw[←hX] at hρ1;rw[ho] at th;simp only at th;have vq:∀d,o.dst=some d→¬wQ ops E d∧d<a.tmps.size:=by
        intro d hd;refine⟨fun⟨i',o',df,dQ,eU⟩=>?_,?_⟩
        ·have aB:i'≠i:=fun e=>by subst e;rw[dp] at df;cases df
         exact u7.dst_once bp dQ ho eU hd aB
        ·have:=bL.1 aE.2 o (by simpa using gA ho);simp only[hd,ar] at this;rw[hn.size,PD];simpa [iy] using this.2
   have jo:nL o.op=true:=by
        have:=bL.1 aE.2 o (by simpa using gA ho);simp only[ar] at this;exact this.1
   have hj:∀j want t,o.guard=some (j,want)→(ops[j]?).bind (·.dst)=some t→wQ ops E t:=by
        intro j want t jN ht;rw[ax] at ht;obtain⟨oj,h1,h2⟩:=ht;have tl:=bL.1 eV o (by simpa using gA ho);simp only[jN] at tl;obtain⟨e,ib,kh⟩:=sF.1 tl;simp only[ar] at kh;have h3:=bL.1 th e ib;rw[kh.1] at h3;simp only[q8,pO] at h3;exact⟨j,oj,by rw[←cK kh.2];exact h3,h1,h2⟩
   have main:=Hl (rd:=rd) (K:=wpAnyIn (FR rd) 0 C.P .any ops Q k (listed.setIfInBounds i true)) (Q:=Q') hg hC bn hΦ hY jo vq hj hr hρ1 (fun a' w' fm qu=>by
        have hA:(fun u=>wQ ops E u∨o.dst=some u)=wQ ops (Nat.lor E (dE i)):=by
         funext u;apply propext;constructor
         ·rintro(⟨i',o',h1,h2,h3⟩|h1)
          ·exact⟨i',o',by rw[iI,h1,xc],h2,h3⟩
          ·exact⟨i,o,by rw[iI,gY,m6],ho,h1⟩
         ·rintro⟨i',o',h1,h2,h3⟩;rw[iI,gB] at h1;rcases h1 with h1|h1
          ·exact .inl ⟨i',o',h1,h2,h3⟩
          ·rw[←cK h1,ho] at h2;cases h2;exact .inr h3
        rw[hA] at fm
        refine ih hs hQ _ _ hyL _ ρ1 a' w' (by simpa using aR) (fun j=>?_) (hn.trans (qu.mono fun t e=>⟨o,by simpa using gA ho,e⟩)) (by
         have:=fm.snapO U.rs.length ids
         rw[show r.1.snapO U.rs.length ids=⟨ur (kA r.1) r.1 U.rs o.dst.toList,ids.map fun j=>gR r.1 (r.1.o j)⟩ from by
          unfold St.snapO;rw[Fi fun t ht=>?_];rw[Ze hr t (fun e=>ht (by rw[e];simp))];rfl] at this
         exact this) hρ2
        rw[iI];simp only[dO,uF];by_cases cS:i=j
        ·subst cS;simp[aR,bJ]
        ·rw[if_neg cS,eu cS,w9,←hl j];simp only[dO])
   simp only[wpOpIn,ho];split
   ·rename_i hw;rw[if_pos hw] at main;exact main
   ·rename_i hw;rw[if_neg hw] at main;exact⟨fun _ _=>trivial,main⟩
  cases P0:zX (rj C.P ops) E (lg ops E) with
  |none=>
   have lH:oD ops (rj C.P ops) E=lg ops E:=by unfold oD;rw[P0]
   refine⟨fun he=>?_,fun i hi=>step i (by rw[lH];exact(Mj aR hl i).1 hi) Q⟩;exfalso;refine PF ?_;rw[Xp];intro i hi;rw[←Mj aR hl,he] at hi;cases hi
  |some i=>
   have lH:oD ops (rj C.P ops) E=[i]:=by unfold oD;rw[P0]
   obtain⟨hir,b,hb,atg⟩:=ME P0;obtain⟨oi,hoi,P3,O1⟩:=alA hb;obtain⟨v,hv,hK⟩:=az7 hoi P3 (step i (by rw[lH];simp) _);refine aEn (fun j o ho=>?_) hoi (fun j o cs b' ho e=>?_) (fun c a' w' h=>(hQp _ _ _ h).elim) k listed a w (fun j oj hj gK mF dX=>O1 j oj hj gK (fun H5=>?_) dX) ((Mj aR hl i).2 hir) hv hK
   ·have:=bL.1 aE.2 o (by simpa using gA ho);simp only[ar] at this;exact this.1
   ·have:=bL.1 yz o (by simpa using gA ho);rw[e] at this;cases this
   ·have h1:=bL.1 atg j H5;have h2:=hl j;rw[h1] at h2;simp only[dO] at h2 mF;cases yn:listed[j]? with
    |none=>rw[yn] at h2;cases h2
    |some x=>
     rw[yn] at h2 mF;simp only[jE] at h2 mF;rw[h2] at mF;cases mF
theorem ahp {ops:Array Oper}:∀{l:List Nat} {S:St} {X:List (List PI)},eM C ops l S=some X→X.length=l.length
 |[],S,X,h=>by simp only[eM,bf] at h;subst h;rfl
 |i::l,S,X,h=>by
  simp only[eM] at h;split at h
  case h_2=>cases h
  simp only[ax,aH] at h;obtain⟨r,_,q,hq,rfl⟩:=h;simp[ahp hq]
theorem ag9 (X:List (List PI)):eg X (List.range X.length) 0=X.flatten:=by
 have h0:∀i,aw 0 i=false:=fun i=>by rw[rl];simp
 have key:∀(Y Z:List (List PI)),eg (Y++Z) (List.range' Y.length Z.length) 0=Z.flatten:=by
  intro Y Z
  induction Z generalizing Y with
  |nil=>rfl
  |cons z Z ih=>
   have:=ih (Y++[z]);simp only[pQ,List.singleton_append,j4,pS,xg,lC] at this;rw[pS,FO];have e:eg (Y++z::Z) (Y.length::List.range' (Y.length+1) Z.length) 0=(Y++z::Z).getD Y.length []++eg (Y++z::Z) (List.range' (Y.length+1) Z.length) 0:=by
        unfold eg;rw[uL,h0];rfl
   rw[e,this,Xu]
   congr 1
   simp[aS]
 have:=key [] X;simp only[sH,xg] at this;rw[M6];exact this
theorem aAT (bn:dD C)(hΦ:de C Φ):Nd C n ids Φ (Mm C n ids):=by
 intro id ops draw S r hr rd w0 σ0 ρ ρ' a w Q hC hY hn hg ao hQ;rw[aAS] at hr;unfold Mn at hr;cases aE:qN n ops<;>simp only[aE,cond_true,cond_false] at hr
 ·cases hr
 cases draw with
 |false=>
  simp only[cond_false] at hr;cases hgb:Z2 ops<;>simp only[hgb,cond_true,cond_false] at hr
  ·cases hr
  simp only[aH] at hr;obtain⟨q,hq,rfl⟩:=hr;refine wpIn_region ?_
  have oX:lh ops []=fun _=>False:=by
   funext t;apply propext;constructor
   ·rintro⟨i,o,h,_⟩;cases h
   ·intro h;exact h.elim
  refine u7 hC bn hΦ hY aE (List.range ops.size) [] (by simpa using M5) (fun p i q o j want hl ho jN=>?_) hn (by rw[oX];exact hg) hq ao (fun a' w' iP fm=>hQ a' w' iP (by
   have:=fm.snapF S.rs.length ids
   rw[show q.1.snap S.rs.length ids=⟨ur (fc q.1) q.1 S.rs (ops.toList.filterMap (·.dst)),ids.map fun j=>gR q.1 (q.1.o j)⟩ from by
        unfold St.snap;rw[Fi fun t ht=>?_];rw[Oj hq t (fun i o hi ho e=>ht (sG.2 ⟨o,by simpa using gA ho,e⟩))];show _=fc q.1 (cu (S.rs.getD t .none));cases S.rs.getD t .none<;>rfl] at this
   exact this))
  have hi:i<ops.size:=by
   have:i∈List.range ops.size:=by rw[hl];simp
   exact cd.1 this
  have hb:=bL.1 hgb i (cd.2 hi);rw[ho] at hb;simp only[jN,iy] at hb;have hp:=List.pairwise_lt_range (n:=ops.size);have tn:j∈List.range ops.size:=cd.2 (by omega);rw[hl,List.pairwise_append] at hp;obtain⟨_,eX,_⟩:=hp;rw[XA] at eX;rw[hl,cY] at tn;simp only[sH];rcases tn with hm|hm
  ·exact hm
  ·rcases cG.1 hm with e|hm
   ·omega
   ·have:=eX.1 j hm;omega
 |true=>
  simp only[cond_true] at hr;cases eV:(xW ops&&RP ops&&C.P.follows .mixedOrders)<;>simp only[eV,cond_true,cond_false] at hr
  ·cases hr
  simp only[ar] at eV;have yz:=eV.1.2
  replace eV:xW ops=true∧C.P.follows .mixedOrders=true:=⟨eV.1.1,eV.2⟩
  have h0:∀i,aw 0 i=false:=fun i=>by rw[rl];simp
  split at hr
  case h_1=>
   rename_i r kl;cases hr;generalize Qk:oe (dy ops ops.size) ops.size=m at*;unfold ZR at kl;rw[Qk] at kl;have aup:m≤ops.size:=Qk▸ahD _ _;have yC:∀i,m≤i→i<ops.size→∀j,j<i→aw ((dy ops ops.size).getD i 0) j=true:=Qk▸ahC _ _;rw[ax] at kl;obtain⟨q,hq,kl⟩:=kl;cases tu:Ct ops (ph (q.map (·.2)) m) (dy ops ops.size) m<;>simp only[tu,cond_true,cond_false] at kl
   ·cases kl
   rw[aH] at kl;obtain⟨r1,ic,rfl⟩:=kl;refine wpIn_region_any eV.2 ?_
   have oX:uo ops 0=fun _=>False:=by
        funext t;apply propext;constructor
        ·rintro⟨i,o,h,_⟩;rw[h0] at h;cases h
        ·intro h;exact h.elim
   have hlen:(q.map (·.2)).length=m:=by rw[ix];exact(OM hq).1
   have avr:qW ops 0=ops.size:=by
        unfold qW;have:((List.range ops.size).filter fun i=> !aw 0 i)=List.range ops.size:=List.filter_eq_self.2 fun i _=>by rw[h0];rfl
        rw[this,Xy]
   have CN:(List.range m).filter (aw 0)=[]:=List.filter_eq_nil_iff.2 fun i _=>by rw[h0];simp
   simp only[oa,ax] at ao;obtain⟨ρ1,hρ1,hρ2⟩:=ao;have PX:=tu;unfold Ct at PX;rw[ar] at PX;refine ap1 (w0:=w0) (S:=S.st ids) hC bn hΦ hY hn aE eV.1 aup hq tu yC (ρ':=ρ1) (fun listed a' w' aR hl iP fm=>?_) ops.size 0 _ ρ a _ avr (fun j hj=>by rw[h0] at hj;cases hj) (fun j _ hj=>by rw[h0] at hj;cases hj) (by simp) (fun i=>?_) (.refl _ _) ?_ ?_
   ·refine aBF hC bn hΦ hY aE eV.1 PX.2 yC (ops.size-m) m listed (by omega) (bk _) aR hl (iP.size.trans hn) fm ic hρ2 (fun a2 w2 s2 g2=>hQ a2 w2 (iP.trans s2) (by
     have:=g2.snapF S.rs.length ids
     rw[show r1.1.snap S.rs.length ids=⟨ur (fc r1.1) r1.1 S.rs (ops.toList.filterMap (·.dst)),ids.map fun j=>gR r1.1 (r1.1.o j)⟩ from by
      unfold St.snap;rw[Fi fun t ht=>?_];rw[Oj ic t (fun i o hi ho e=>ht (sG.2 ⟨o,by simpa using gA ho,e⟩))]
      have e1:fe ops (q.map (·.1)) (List.range m) (S.st ids).r t=(S.st ids).r t:=Fh fun i hi e=>by
        rw[ax] at e;obtain⟨o,ho,hd⟩:=e;exact ht (sG.2 ⟨o,by simpa using gA ho,hd⟩)
      show fc _ (S.rs.getD t .none)=fc _ (fe ops (q.map (·.1)) (List.range m) (S.st ids).r t);rw[e1];show _=fc _ (cu (S.rs.getD t .none));cases S.rs.getD t .none<;>rfl] at this
     exact this))
   ·rw[h0];simp only[dO,aiC];split<;>rfl
   ·rw[oX,CN];exact hg.drew
   ·rw[←hlen,ag9];exact hρ1
  simp only[aaj,Snap.hard_eq,ax,aH] at hr;obtain⟨X,hX,T,hT,rfl⟩:=hr;refine wpIn_mono (Q:=fun e a w=>(∀c,e≠.panic c)∧Q e a w) ?_ fun e a w h=>h.2;refine wpIn_region_any eV.2 ?_
  have oX:wQ ops 0=fun _=>False:=by
   funext t;apply propext;constructor
   ·rintro⟨i,o,h,_⟩;rw[h0] at h;cases h
   ·intro h;exact h.elim
  have hlen:=ahp hX;rw[Xy] at hlen
  refine aBf (w0:=w0) hC bn hΦ hY hn aE eV.1 (ρ':=ρ') yz (fun c a w h=>h.1 c rfl) ops.size hT (fun a' w' iP fm=>⟨fun c e=>(by cases e),hQ a' w' iP (by
   have:=fm.snapF T.rs.length ids
   rw[show(T.stO ids).snap T.rs.length ids=⟨T.rs.map (fc (T.stO ids)),ids.map fun j=>gR (T.stO ids) ((T.stO ids).o j)⟩ from by
        unfold St.snap;have:=Fi (g:=fc (T.stO ids)) (S:=T.stO ids) (rs:=T.rs) (ds:=[]) (fun t _=>rfl);rw[←this];rfl] at this
   exact this)⟩) 0 _ (rf.2 rfl) _ ρ a _ (by simp) (fun i=>?_) (.refl _ _) ?_ ?_
  ·rw[h0];simp only[dO,aiC];split<;>rfl
  ·rw[oX];have:=(hg.drew).snapO S.rs.length ids
   rw[show(S.st ids).snapO S.rs.length ids=⟨S.rs.map fun s=>kA (S.st ids) (cu s),ids.map fun j=>gR (S.st ids) ((S.st ids).o j)⟩ from by
        unfold St.snapO
        have:=Fi (g:=fun s=>kA (S.st ids) (cu s)) (S:=S.st ids) (rs:=S.rs) (ds:=[]) (fun t _=>by
         show kA _ (cu (S.rs.getD t .none))=kA _ (cu (cu (S.rs.getD t .none)));cases S.rs.getD t .none<;>rfl)
        have h2:(fun t=>kA (S.st ids) (cu ((S.st ids).r t)))=fun t=>kA (S.st ids) ((S.st ids).r t):=by
         funext t;show kA _ (cu (cu (S.rs.getD t .none)))=kA _ (cu (S.rs.getD t .none));cases S.rs.getD t .none<;>rfl
        rw[h2] at this;rw[←this];rfl] at this
   exact this
  ·rw[←hlen,ag9];exact ao
end
end Cx
