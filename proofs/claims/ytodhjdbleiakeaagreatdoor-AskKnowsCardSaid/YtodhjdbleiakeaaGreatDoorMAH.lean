/-
  Regions: in the order of the text, and in every order that their edges allow.
-/
import Derived.Test.YtodhjdbleiakeaaGreatDoorMAG
import Derived.OrdersIn
set_option linter.unusedSimpArgs false
set_option linter.unusedVariables false
namespace Cx
open Go Go.RowKit
def kh (S:St):Sh→Sh
 |.opt gs s=>.opt gs (ff S s)
 |s=>ff S s
def St.snapO (n:Nat)(ids:List Nat)(S:St):Snap:=⟨(List.range n).map fun t=>kh S (S.r t),ids.map fun j=>gN S (S.o j)⟩
def Snap.stO (ids:List Nat)(s:Snap):St:=⟨fun t=>s.rs.getD t .none,fun j=>dh ids s.os j,fun _=>0⟩
theorem rV (S:St)(s:Sh):∀gs s',ff S s≠.opt gs s':=by
 intro gs s' e;cases s<;>simp only[ff] at e<;>first|cases e|(revert e;cases Nat.beq _ _<;>intro e<;>cases e)|(revert e;cases List.all _ _<;>intro e<;>cases e)
section
variable {C:Ctx} {S:St} {ρ:Env} {σ:Im} {own:Nat→Option Nat} {hv:Nat→Value} {w0:World} {σ0:Base} {A:Nat→Prop} {a:Act} {w:World} {n:Nat} {ids:List Nat} {Φ:aV}
theorem azv {s:Sh}{v:Value}{d:D}(h:aQ C S ρ σ hv s v d){T:St}(hT:T.ver=fun _=>0):aQ C T ρ σ hv (kh S s) v d:=by
 have hc:Compat S.norm hv T hv:=⟨fun j=>by rw[hT];exact oE _,fun _ _=>rfl⟩
 have key:∀s,aQ C S ρ σ hv s v d→aQ C T ρ σ hv (ff S s) v d:=fun s hs=>aQ.mono' (.refl σ) hc (rV S s) (IP hs).1;cases s with
 |opt gs s=>exact⟨fun hh=>key s (h.1 hh),h.2⟩
 |_=>exact key _ h
theorem Good.snapO (h:Good C w0 σ0 S ρ A a w)(n:Nat)(ids:List Nat):Good C w0 σ0 ((S.snapO n ids).stO ids) ρ A a w:=by
 obtain⟨σ,own,hv,h⟩:=h;have h1:=h.norm;have hc:Compat S.norm hv ((S.snapO n ids).stO ids) hv:=⟨fun _=>bk _,fun _ _=>rfl⟩
 refine⟨σ,own,hv,h.defers,h.ok,h.le,h.old,h.newc,h.newm,h.below,h.bw,h.owns,fun t=>?_,fun j=>?_,fun t gs s e=>?_,?_⟩
 rotate_right
 ·obtain⟨t,fx,cx,f1,f5⟩:=h.frame;refine⟨t,fx,cx,f1,fun j hj=>f5 j ?_⟩;exact vS (fun j=>gN S (S.o j)) (fun ob=>ob=.tr→S.o j=.tr) (fun e=>by cases e) j aeE ids hj
 ·show aQ C _ ρ σ hv (((List.range n).map fun t=>kh S (S.r t)).getD t .none) _ _;rw[aT,cS];by_cases ht:t<n
  ·rw[p6 ht];exact azv (h.regs t) rfl
  ·rw[rf (by simpa using ht)];trivial
 ·have ho:=(h1.objs j).mono (.refl σ) hc (w:=w) (w':=w) rfl rfl (fun k hk=>⟨hk,rfl⟩);exact vS (fun j=>gN S (S.o j)) (fun ob=>cf C _ ρ σ own hv w w0.heap.size j ob) trivial j ho ids
 ·change ((List.range n).map fun t=>kh S (S.r t)).getD t .none=.opt gs s at e;rw[aT,cS] at e;by_cases ht:t<n
  ·rw[p6 ht] at e;simp only[jF,jE] at e;cases hs:S.r t with
   |opt bM s'=>
    rw[hs] at e;simp only[kh,Sh.opt.injEq] at e;obtain⟨rfl,rfl⟩:=e;exact⟨(h.opts t bM s' hs).1,rV S s'⟩
   |none=>rw[hs] at e;exact absurd e (rV S .none gs s)
   |yv=>rw[hs] at e;exact absurd e (rV S .yv gs s)
   |fclo f c=>rw[hs] at e;exact absurd e (rV S (.fclo f c) gs s)
   |dat t=>rw[hs] at e;exact absurd e (rV S (.dat t) gs s)
   |obj t u=>rw[hs] at e;exact absurd e (rV S (.obj t u) gs s)
   |ptr t u v=>rw[hs] at e;exact absurd e (rV S (.ptr t u v) gs s)
   |eptr t u v x=>rw[hs] at e;exact absurd e (rV S (.eptr t u v x) gs s)
  ·rw[rf (by simpa using ht)] at e;cases e
theorem Good.snapF (h:Good C w0 σ0 S ρ A a w)(n:Nat)(ids:List Nat):Good C w0 σ0 ((S.snap n ids).st ids) ρ (fun _=>False) a w:=by
 obtain⟨σ,own,hv,h⟩:=h;exact⟨σ,own,hv,h.snap n ids⟩
theorem Good.drew (h:Good C w0 σ0 S ρ A a w):Good C w0 σ0 S ρ A a {w with drawn:=w.drawn+1}:=by
 obtain⟨σ,own,hv,h⟩:=h;refine⟨σ,own,hv,h.defers,⟨fun k o v e=>h.ok.c k o v e,fun k es e=>h.ok.m k es e⟩,h.le,h.old,h.newc,h.newm,h.below.drew,h.bw,h.owns,h.regs,fun j=>?_,h.opts,?_⟩
 rotate_right
 ·obtain⟨t,fx,cx,f1,f2⟩:=h.frame;exact⟨t,fx,cx,⟨σ0.keep _ _ _ _ _ f1.F (Below.drew (.refl _ _)) (fun _ _=>rfl),f1.own,f1.c,f1.m,f1.d⟩,f2⟩
 exact(h.objs j).mono (.refl σ) (.refl S hv) rfl rfl (fun k hk=>⟨hk,rfl⟩)
end
def uj (g:Sh→Sh)(S:St)(rs:List Sh)(ds:List Nat):List Sh:=(ds.foldl (fun l d=>l.set d (S.r d)) rs).map g
theorem aai (S:St):∀(ds:List Nat) (rs:List Sh),(ds.foldl (fun l d=>l.set d (S.r d)) rs).length=rs.length∧∀t,t<rs.length→(ds.foldl (fun l d=>l.set d (S.r d)) rs).getD t .none=if t∈ds then S.r t else rs.getD t .none
 |[],rs=>⟨rfl,fun t _=>by simp⟩
 |d::ds,rs=>by
  obtain⟨h1,h2⟩:=aai S ds (rs.set d (S.r d));simp only[List.length_set] at h1 h2;refine⟨h1,fun t ht=>?_⟩;rw[Fw,h2 t ht];simp only[cX,aT,Ac];by_cases hm:t∈ds
  ·simp[hm]
  ·by_cases e:d=t
   ·subst e;simp[hm,ht]
   ·have e':¬t=d:=fun h=>e h.symm;simp[hm,e,e']
theorem E9 {g:Sh→Sh}{S:St}{rs:List Sh}{ds:List Nat}(h:∀t,t∉ds→g (rs.getD t .none)=g (S.r t)):uj g S rs ds=(List.range rs.length).map fun t=>g (S.r t):=by
 obtain⟨h1,h2⟩:=aai S ds rs;unfold uj;apply XJ;intro t;simp only[cS];by_cases ht:t<rs.length
 ·have:=h2 t ht;rw[aT,bH (by omega)] at this;rw[bH (by omega),p6 ht];simp only[jE,jF] at this ⊢;rw[this];by_cases hm:t∈ds
  ·simp[hm]
  ·simp only[hm,if_false];rw[h t hm]
 ·rw[rf (by omega),rf (by simpa using ht)];rfl
def Sh.hd {α:Type}(s:Sh)(k:Sh→α):α:=
 match s with
 |.none=>k .none
 |.dat t=>k (.dat t)
 |.obj j v=>k (.obj j v)
 |.ptr j v o=>k (.ptr j v o)
 |.eptr j v z o=>k (.eptr j v z o)
 |.opt gs s=>k (.opt gs s)
 |.yv=>k .yv
 |.fclo f c=>k (.fclo f c)
theorem Sh.hd_eq {α:Type}(s:Sh)(k:Sh→α):s.hd k=k s:=by cases s<;>rfl
def xT {α:Type}:List Sh→(List Sh→α)→α
 |[],k=>k []
 |s::l,k=>s.hd fun s=>xT l fun l=>k (s::l)
theorem Pd {α:Type}:∀(l:List Sh) (k:List Sh→α),xT l k=k l
 |[],_=>rfl
 |s::l,k=>by rw[xT,Sh.hd_eq,Pd l]
def Ob.hd {α:Type}(s:Ob)(k:Ob→α):α:=
 match s with
 |.dead=>k .dead
 |.fz t=>k (.fz t)
 |.fbox t=>k (.fbox t)
 |.box true l=>xT l fun l=>k (.box true l)
 |.box false l=>xT l fun l=>k (.box false l)
 |.row T e=>k (.row T e)
 |.mp a b=>k (.mp a b)
 |.it a b=>k (.it a b)
 |.tr=>k .tr
theorem Ob.hd_eq {α:Type}(s:Ob)(k:Ob→α):s.hd k=k s:=by
 cases s with
 |box ag l=>cases ag<;>simp only[Ob.hd,Pd]
 |_=>rfl
def HC {α:Type}:List Ob→(List Ob→α)→α
 |[],k=>k []
 |s::l,k=>s.hd fun s=>HC l fun l=>k (s::l)
theorem aaF {α:Type}:∀(l:List Ob) (k:List Ob→α),HC l k=k l
 |[],_=>rfl
 |s::l,k=>by rw[HC,Ob.hd_eq,aaF l]
def Snap.hard {α:Type}(s:Snap)(k:Snap→α):α:=xT s.rs fun a=>HC s.os fun b=>k ⟨a,b⟩
theorem Snap.hard_eq {α:Type}(s:Snap)(k:Snap→α):s.hard k=k s:=by rw[Snap.hard,Pd,aaF]
def HD {α β:Type}:List β→(List β→α)→α
 |[],k=>k []
 |s::l,k=>HD l fun l=>k (s::l)
theorem aaH {α β:Type}:∀(l:List β) (k:List β→α),HD l k=k l
 |[],_=>rfl
 |s::l,k=>by rw[HD,aaH l]
def Ct {α β:Type}:List (List β)→(List (List β)→α)→α
 |[],k=>k []
 |s::l,k=>HD s fun s=>Ct l fun l=>k (s::l)
theorem aaG {α β:Type}:∀(l:List (List β)) (k:List (List β)→α),Ct l k=k l
 |[],_=>rfl
 |s::l,k=>by rw[Ct,aaH,aaG l]
def aI (P:Program){α:Type}(s:Sem α):Prop:=(∃a,∀w,s.run P w=.ok a w)∨∀w,∃h w',s.run P w=.halt h w'
section
variable {P:Program}
theorem aI.pure {α:Type}(a:α):aI P (Sem.pure a):=.inl ⟨a,fun w=>rfl⟩
theorem aI.pure' {α:Type}(a:α):aI P (Pure.pure a:Sem α):=.inl ⟨a,fun w=>rfl⟩
theorem aI.halt {α:Type}(h:Halt):aI P (Sem.halt h:Sem α):=.inr fun w=>⟨h,w,rfl⟩
theorem aI.bind' {α β:Type}{s:Sem α}{f:α→Sem β}(h:aI P s)(hf:∀a,(∀w,s.run P w=.ok a w)→aI P (f a)):aI P (s>>=f):=by
 rcases h with⟨a,ha⟩|hd
 ·rcases hf a ha with⟨b,hb⟩|hd
  ·exact .inl ⟨b,fun w=>by rw[Sem.run_bind,ha w];exact hb w⟩
  ·refine .inr fun w=>?_;obtain⟨x,w',e⟩:=hd w;exact⟨x,w',by rw[Sem.run_bind,ha w];exact e⟩
 ·refine .inr fun w=>?_;obtain⟨x,w',e⟩:=hd w;exact⟨x,w',by rw[Sem.run_bind,e];rfl⟩
theorem aI.bind {α β:Type}{s:Sem α}{f:α→Sem β}(h:aI P s)(hf:∀a,aI P (f a)):aI P (s>>=f):=h.bind' fun a _=>hf a
def cd {α:Type}(s:Sem α):Prop:=∀P w,∃h w',s.run P w=.halt h w'
theorem cd.noW {α:Type}{s:Sem α}(h:cd s):aI P s:=.inr (h P)
theorem cd.halt {α:Type}(h:Halt):cd (Sem.halt h:Sem α):=fun P w=>⟨h,w,rfl⟩
theorem cd.of_bind {α β:Type}{s:Sem α}{f:α→Sem β}(hf:∀a,cd (f a)):cd (s>>=f):=by
 intro P w;rw[Sem.run_bind];cases e:s.run P w with
 |ok a w'=>exact hf a P w'
 |halt h w'=>exact⟨h,w',rfl⟩
theorem aI.asBool (v:Value):aI P (Go.asBool v):=by
 cases v<;>first|exact .pure _|exact .halt _
theorem aI.asIntOf (v:Value):aI P (Go.asIntOf v):=by
 unfold Go.asIntOf;split<;>first|exact .pure _|exact .halt _
theorem aI.sureAddr (v:Value):aI P (Instr.sureAddr v):=by
 unfold Instr.sureAddr;split<;>first|exact .pure _|exact .halt _
theorem aI.prog:aI P Go.program:=.inl ⟨P,fun w=>rfl⟩
theorem aI.underlying (t:TypeId):aI P (Go.underlying t):=by
 unfold Go.underlying;refine .bind .prog fun p=>?_;split<;>first|exact .pure _|exact .halt _
theorem aI.sizeOf (t:TypeId):aI P (Go.sizeOf t):=by
 unfold Go.sizeOf Go.typeInfo;refine .bind (.bind .prog fun p=>?_) fun _=>.pure _;split<;>first|exact .pure _|exact .halt _
theorem cd.runtimePanic {α:Type}(e:RuntimeError):cd (Go.runtimePanic e:Sem α):=by
 unfold Go.runtimePanic;refine .of_bind fun p=>?_;cases e<;>first|exact .halt _|exact .of_bind fun _=>.halt _|exact .of_bind fun _=>.of_bind fun _=>.halt _
theorem cd.boundsPanic {α:Type}(k:IntKind)(x y:Int)(c:BoundsCode):cd (Go.boundsPanic k x y c:Sem α):=by
 unfold Go.boundsPanic;dsimp only;split<;>exact .of_bind fun _=>.runtimePanic _
theorem aI.indexAt (t:TypeId)(x i:Value):aI P (Instr.indexAt t x i):=by
 unfold Instr.indexAt
 repeat' (first|(first|exact aI.pure _|exact aI.pure' _|exact aI.halt _|exact cd.noW (cd.boundsPanic _ _ _ _)|exact cd.noW (cd.runtimePanic _)|exact aI.prog|exact aI.underlying _|exact aI.sizeOf _|exact aI.asIntOf _|exact aI.sureAddr _|exact aI.asBool _)|(refine aI.bind ?_ fun _=>?_)|dsimp only|split)
theorem aI.sliceBound (x:Value)(y:Nat)(c:BoundsCode):aI P (Instr.sliceBound x y c):=by
 unfold Instr.sliceBound
 repeat' (first|(first|exact aI.pure _|exact aI.pure' _|exact aI.halt _|exact cd.noW (cd.boundsPanic _ _ _ _)|exact cd.noW (cd.runtimePanic _)|exact aI.prog|exact aI.underlying _|exact aI.sizeOf _|exact aI.asIntOf _|exact aI.sureAddr _|exact aI.asBool _)|(refine aI.bind ?_ fun _=>?_)|dsimp only|split)
theorem aI.sliceBounds (b:Bool)(n m:Nat)(lo hi mx:Option Value):aI P (Instr.sliceBounds b n m lo hi mx):=by
 unfold Instr.sliceBounds
 repeat' (first|exact aI.sliceBound _ _ _|(first|exact aI.pure _|exact aI.pure' _|exact aI.halt _|exact cd.noW (cd.boundsPanic _ _ _ _)|exact cd.noW (cd.runtimePanic _)|exact aI.prog|exact aI.underlying _|exact aI.sizeOf _|exact aI.asIntOf _|exact aI.sureAddr _|exact aI.asBool _)|(refine aI.bind ?_ fun _=>?_)|dsimp only|split)
theorem aI.asAddr (v:Value):aI P (Go.asAddr v):=by
 unfold Go.asAddr
 repeat' (first|(first|exact aI.pure _|exact aI.pure' _|exact aI.halt _|exact cd.noW (cd.boundsPanic _ _ _ _)|exact cd.noW (cd.runtimePanic _)|exact aI.prog|exact aI.underlying _|exact aI.sizeOf _|exact aI.asIntOf _|exact aI.sureAddr _|exact aI.asBool _)|(refine aI.bind ?_ fun _=>?_)|dsimp only|split)
theorem aI.slice (t:TypeId)(x:Value)(lo hi mx:Option Value):aI P (Instr.slice t x lo hi mx):=by
 unfold Instr.slice
 repeat' (first|exact aI.sliceBounds _ _ _ _ _ _|exact aI.asAddr _|(first|exact aI.pure _|exact aI.pure' _|exact aI.halt _|exact cd.noW (cd.boundsPanic _ _ _ _)|exact cd.noW (cd.runtimePanic _)|exact aI.prog|exact aI.underlying _|exact aI.sizeOf _|exact aI.asIntOf _|exact aI.sureAddr _|exact aI.asBool _)|(refine aI.bind ?_ fun _=>?_)|dsimp only|split)
theorem aI.sliceAt (t:TypeId)(x:Value)(lo hi mx:Option Value):aI P (Instr.sliceAt t x lo hi mx):=by
 unfold Instr.sliceAt
 repeat' (first|exact aI.sliceBounds _ _ _ _ _ _|exact aI.slice _ _ _ _ _|(first|exact aI.pure _|exact aI.pure' _|exact aI.halt _|exact cd.noW (cd.boundsPanic _ _ _ _)|exact cd.noW (cd.runtimePanic _)|exact aI.prog|exact aI.underlying _|exact aI.sizeOf _|exact aI.asIntOf _|exact aI.sureAddr _|exact aI.asBool _)|(refine aI.bind ?_ fun _=>?_)|dsimp only|split)
def UQ (P:Program)(s:TypeId)(i:Nat):Bool:=
 match P.underlying s with
 |some (.struct fs)=>(match fs[i]? with
  |some f=>(match P.info? f.type with|some d=> !Nat.beq d.size 0|none=>false)
  |none=>false)
 |_=>false
theorem aI.fieldAt {s:TypeId}{i:Nat}(h:UQ P s i=true)(a:Value):aI P (Instr.fieldAt s a i):=by
 unfold Instr.fieldAt;refine .bind' (.underlying _) fun d hd=>?_;have hu:P.underlying s=some d:=by
  have:=hd default;unfold Go.underlying at this;rw[Sem.run_bind] at this;change Result.andThen (.ok P default) _=_ at this;simp only[Result.andThen_ok] at this;cases hp:P.underlying s with
  |none=>rw[hp] at this;cases this
  |some d'=>
   rw[hp] at this;change Result.ok d' default=_ at this;cases this;rfl
 unfold UQ at h;rw[hu] at h;cases d<;>dsimp only at h ⊢<;>try (first|exact aI.pure _|exact aI.pure' _|exact aI.halt _|exact cd.noW (cd.boundsPanic _ _ _ _)|exact cd.noW (cd.runtimePanic _)|exact aI.prog|exact aI.underlying _|exact aI.sizeOf _|exact aI.asIntOf _|exact aI.sureAddr _|exact aI.asBool _)
 rename_i fs;cases hf:fs[i]? with
 |none=>dsimp only;(first|exact aI.pure _|exact aI.pure' _|exact aI.halt _|exact cd.noW (cd.boundsPanic _ _ _ _)|exact cd.noW (cd.runtimePanic _)|exact aI.prog|exact aI.underlying _|exact aI.sizeOf _|exact aI.asIntOf _|exact aI.sureAddr _|exact aI.asBool _)
 |some f=>
  rw[hf] at h;dsimp only at h ⊢;refine .bind (.sureAddr _) fun a=>.bind ?_ fun _=>.pure _;unfold Go.fieldPlace;refine .bind' (.sizeOf _) fun n hn=>?_;have hz:n≠0:=by
   intro e;have:=hn default;unfold Go.sizeOf Go.typeInfo at this;cases hi:P.info? f.type with
   |none=>rw[hi] at h;cases h
   |some inf=>
    rw[hi] at h;rw[Sem.run_bind,Sem.run_bind] at this;change Result.andThen (Result.andThen (.ok P default) _) _=_ at this;simp only[Result.andThen_ok,hi] at this;change Result.ok inf.size default=_ at this;cases this;dsimp only at h;rw[e] at h;cases h
  rw[if_neg hz]
  (first|exact aI.pure _|exact aI.pure' _|exact aI.halt _|exact cd.noW (cd.boundsPanic _ _ _ _)|exact cd.noW (cd.runtimePanic _)|exact aI.prog|exact aI.underlying _|exact aI.sizeOf _|exact aI.asIntOf _|exact aI.sureAddr _|exact aI.asBool _)
def DK (P:Program):Op→Bool
 |.move _=>true
 |.assign _=>true
 |.pick ..=>true
 |.fieldAddr s _ i=>UQ P s i
 |.indexAddr ..=>true
 |.slice ..=>true
 |_=>false
theorem aAU {o:Oper}(hp:DK P o.op=true)(ρ:Operand→Value):(∃v,∀w,(execOp ρ o).run P w=.ok (.value v) w)∨∀w,∃h w',(execOp ρ o).run P w=.halt h w':=by
 have key:∀s:Sem Value,aI P s→(∃v,∀w,(do Pure.pure (Next.value (←s)):Sem Next).run P w=.ok (.value v) w)∨∀w,∃h w',(do Pure.pure (Next.value (←s)):Sem Next).run P w=.halt h w':=by
  intro s hs;rcases hs with⟨a,ha⟩|hd
  ·exact .inl ⟨a,fun w=>by rw[Sem.run_bind,ha w];rfl⟩
  ·refine .inr fun w=>?_;obtain⟨x,w',e⟩:=hd w;exact⟨x,w',by rw[Sem.run_bind,e];rfl⟩
 obtain⟨dst,op,type,pos,after,guard⟩:=o;cases op<;>first|(cases hp;done)|skip
 case move x=>exact .inl ⟨_,fun w=>rfl⟩
 case assign x=>exact .inl ⟨_,fun w=>rfl⟩
 case pick c a b=>
  have:=key (do Pure.pure (if←Go.asBool (ρ c) then ρ a else ρ b)) (.bind (.asBool _) fun _=>.pure _);simp only[execOp];rcases aI.asBool (P:=P) (ρ c) with⟨t,ht⟩|hd
  ·exact .inl ⟨_,fun w=>by rw[Sem.run_bind,ht w];rfl⟩
  ·refine .inr fun w=>?_;obtain⟨x,w',e⟩:=hd w;exact⟨x,w',by rw[Sem.run_bind,e];rfl⟩
 case fieldAddr s x i=>exact key _ (.fieldAt hp _)
 case indexAddr t x i=>exact key _ (.indexAt _ _ _)
 case slice t x lo hi mx=>exact key _ (.sliceAt _ _ _ _ _)
theorem aAV {rd:Option Nat}{ops:Array Oper}{i:Nat}{o:Oper}{a:Act}{w:World}{K:Act→World→Prop}(hi:ops[i]?=some o)(hp:DK P o.op=true)
 (h:wpOpIn (FR rd) 0 P ops (fun _ _ _=>False) i K a w):∃v,YieldsFenced P ops o v a∧K (a.put o.dst v) w:=by
 have bo:∀c,o.op≠.defer c:=fun c e=>by rw[e] at hp;cases hp
 have xR:∀w,o.about P w a.eval=none:=fun w=>by
  unfold Oper.about;cases ho:o.op<;>first|rfl|(rw[ho] at hp;cases hp)
 unfold wpOpIn at h;rw[hi] at h;dsimp only at h;cases hw:Region.wanted o (yielded ops a.tmps) with
 |false=>
  rw[hw] at h;exact⟨undef,⟨.inr ⟨hw,rfl⟩,xR⟩,h.2⟩
 |true=>
  rw[hw,if_pos rfl] at h;have h2:=h.2;rw[Oper.semAt_eq _ _ _ bo] at h2;rcases aAU hp a.eval with⟨v,hv⟩|hd
  ·rw[hv w] at h2;exact⟨v,⟨.inl ⟨hw,hv⟩,xR⟩,h2⟩
  ·obtain⟨x,w',e⟩:=hd w;rw[e] at h2;cases x<;>exact h2.elim
section
variable {F:Fence} {n:Nat} {ops:Array Oper} {Q:Exit→Act→World→Prop} {md:Region.Mode}
theorem YF.wpOpIn {i:Nat}{o:Oper}{v:Value}{a:Act}(bo:nL o.op=true)(hi:ops[i]?=some o)(hy:YieldsFenced P ops o v a)
 {K:Act→World→Prop} {w:World} (h:K (a.put o.dst v) w):wpOpIn F n P ops Q i K a w:=by
 have jq:∀c,o.op≠.defer c:=fun c e=>by rw[e] at bo;cases bo
 unfold Go.wpOpIn;simp only[hi];have xR:∀f,o.about P w a.eval=some f→F.fn f:=fun f hf=>by rw[hy.2 w] at hf;cases hf
 rcases hy.1 with⟨hw,hv⟩|⟨hw,rfl⟩
 ·simp only[hw,if_true,Oper.wpIn,Oper.semAt_eq _ _ _ jq,hv w,Oper.uponIn];exact⟨xR,h⟩
 ·simp only[hw,uB,if_false];exact⟨xR,h⟩
theorem aFm {j:Nat}{oi oj:Oper}{v:Value}(bo:nL oj.op=true)(hj:ops[j]?=some oj)(Pc:oi.apart ops oj=true)
 (hsi:∀cs b,oi.op≠.select cs b) (hsj:∀cs b,oj.op≠.select cs b)
 (hQ:∀c a w,Q (.panic c) (a.put oi.dst v) w→Q (.panic c) a w) {K:Act→World→Prop} {a:Act} {w:World}
 (hy:YieldsFenced P ops oi v a) (h:wpOpIn F n P ops Q j K (a.put oi.dst v) w):
 wpOpIn F n P ops Q j (fun a' w'=>YieldsFenced P ops oi v a'∧K (a'.put oi.dst v) w') a w:=by
 have jq:∀c,oj.op≠.defer c:=fun c e=>by rw[e] at bo;cases bo
 obtain⟨h1,h2,h3⟩:=Oper.apart_spec Pc;have keep:∀(a:Act),YieldsFenced P ops oi v a→∀u,YieldsFenced P ops oi v (a.put oj.dst u):=fun a hy u=>
  hy.of_same (execOp_put oi hsi a oj.dst u h3) (wanted_put oi a oj.dst u h3) (fun w=>about_put oi w a oj.dst u h3)
 have awA:∀d,YieldsFenced P ops oi v {a with defers:=d::a.defers}:=fun d=>hy.of_same rfl rfl (fun _=>rfl);unfold Go.wpOpIn at*;simp only[hj] at*;rw[wanted_put oj a oi.dst v h1,about_put oj w a oi.dst v h1] at h;split
 ·rename_i hw;simp only[hw,if_true] at h;unfold Oper.wpIn at*;rw[about_put oj w a oi.dst v h1] at h;refine⟨h.1,?_⟩;have h:=h.2;rw[Oper.semAt_eq _ _ _ jq,execOp_put oj hsj a oi.dst v h1] at h;rw[Oper.semAt_eq _ _ _ jq];generalize (execOp a.eval oj).run P w=r at*;cases r with
  |ok x w'=>
   cases x<;>simp only[Oper.uponIn] at h ⊢
   case value u=>exact⟨keep a hy u,by rw[←Act.put_comm a v u h2];exact h⟩
   case skip=>exact⟨keep a hy _,by rw[←Act.put_comm a v undef h2];exact h⟩
   case defer d=>
        refine⟨keep _ (awA d) _,?_⟩;rw[←Act.put_comm _ v undef h2,←Act.put_defers];exact h
   case enter f args=>
        refine⟨h.1,CallsIn.mono h.2 fun e jX he=>?_⟩;cases e with
        |returned u=>exact⟨keep a hy u,by rw[←Act.put_comm a v u h2];exact he⟩
        |panicked c=>exact hQ _ _ _ he
        |outgrown=>exact he
   case row row args=>exact⟨h.1,RowsIn.mono h.2 fun u jX he=>⟨keep a hy u,by rw[←Act.put_comm a v u h2];exact he⟩⟩
   case round l f tmps assign body=>
        refine⟨h.1,RoundIn.mono h.2 fun e jX he=>?_⟩;cases e with
        |returned u=>exact⟨keep a hy u,by rw[←Act.put_comm a v u h2];exact he⟩
        |panicked c=>exact hQ _ _ _ he
        |outgrown=>exact he
  |halt x w'=>
   cases x<;>simp only[Oper.uponIn] at h ⊢
   case panic u=>exact hQ _ _ _ h
 ·rename_i hw;simp only[hw] at h;exact⟨h.1,keep a hy _,by rw[←Act.put_comm a v undef h2];exact h.2⟩
theorem aFl {i:Nat}{oi:Oper}{v:Value}(bo:∀(j:Nat) (o:Oper),ops[j]?=some o→nL o.op=true)(hi:ops[i]?=some oi)(yj:∀(j:Nat) (o:Oper) cs b,ops[j]?=some o→o.op≠.select cs b)
 (hQ:∀c a w,Q (.panic c) (a.put oi.dst v) w→Q (.panic c) a w):
 ∀(fuel:Nat) (listed:Array Bool) (a:Act) (w:World),
  (∀j oj,ops[j]?=some oj→j≠i→listed.getD j true=false→(∀e∈oj.after,Region.binds md e=true→e.on≠i)→oi.apart ops oj=true)→
  i∈Region.ready md ops listed→YieldsFenced P ops oi v a→
  wpAnyIn F n P md ops Q fuel (listed.setIfInBounds i true) (a.put oi.dst v) w→wpAnyIn F n P md ops Q (fuel+1) listed a w:=by
 intro fuel
 induction fuel with
 |zero=>
  intro listed a w _ hr hy H;refine⟨fun h=>(by rw[h] at hr;cases hr),fun j hj=>?_⟩;by_cases gH:j=i
  ·subst gH;exact YF.wpOpIn (bo _ _ hi) hi hy H
  ·have:=ready_mono hj gH;rw[H.1] at this;cases this
 |succ fuel ih=>
  intro listed a w mA hr hy H;refine⟨fun h=>(by rw[h] at hr;cases hr),fun j hj=>?_⟩;by_cases gH:j=i
  ·subst gH;exact YF.wpOpIn (bo _ _ hi) hi hy H
  ·have h1:=H.2 j (ready_mono hj gH);obtain⟨abb,oj,qx,aX⟩:=mem_ready.1 hj
   have PX:∀e∈oj.after,Region.binds md e=true→e.on≠i:=fun e he hb heq=>by
        have h1:=aX e he hb;have h0:=(mem_ready.1 hr).1;rw[heq] at h1;rcases Na i listed.size with h'|h'
        ·simp[h'] at h0 h1;rw[h0] at h1;cases h1
        ·simp[Array.getElem?_eq_none h'] at h1
   have h2:=aFm (bo _ _ qx) qx (mA j oj qx gH abb PX) (fun cs b=>yj i oi cs b hi) (fun cs b=>yj j oj cs b qx) hQ hy h1;have aur:∀k ok,ops[k]?=some ok→k≠i→(listed.setIfInBounds j true).getD k true=false→
    (∀e∈ok.after,Region.binds md e=true→e.on≠i)→oi.apart ops ok=true:=fun k ok hk hki kN dY=>by
        refine mA k ok hk hki ?_ dY;by_cases HW:j=k
        ·subst HW;exact abb
        ·rw[getD_set_ne true HW] at kN;exact kN
   refine wpOpIn_mono (fun a' w' h3=>ih (listed.setIfInBounds j true) a' w' aur (ready_mono hr (xe gH)) h3.1 ?_) h2;rw[Array.setIfInBounds_comm _ _ gH];exact h3.2
end
end
def ri (P:Program)(ops:Array Oper):List (Option (List Nat)):=(List.range ops.size).map fun i=>match ops[i]? with
 |some oi=>bif DK P oi.op then some ((List.range ops.size).filter fun j=> !(Nat.beq j i||(match ops[j]? with|some oj=>(oj.after.toList.any fun e=>Region.binds .any e&&Nat.beq e.on i)||oi.apart ops oj|none=>true))) else none
 |none=>none
def zH (bad:List (Option (List Nat)))(E:Nat):List Nat→Option Nat
 |[]=>none
 |i::l=>match bad.getD i none with
  |some b=>bif b.all (aw E) then some i else zH bad E l
  |none=>zH bad E l
def R1 (ops:Array Oper):Bool:=ops.toList.all fun o=>match o.op with|.select ..=>false|_=>true
theorem MB {bad:List (Option (List Nat))}{E:Nat}:∀{l:List Nat} {i:Nat},zH bad E l=some i→i∈l∧∃b,bad.getD i none=some b∧b.all (aw E)=true
 |[],_,h=>by cases h
 |i::l,j,h=>by
  unfold zH at h;split at h
  ·rename_i b hb;cases hc:b.all (aw E) with
   |true=>
    rw[hc] at h;cases h;exact⟨dv ..,b,hb,hc⟩
   |false=>
    rw[hc] at h;obtain⟨h1,h2⟩:=MB h;exact⟨dk _ h1,h2⟩
  ·obtain⟨h1,h2⟩:=MB h;exact⟨dk _ h1,h2⟩
theorem amb {P:Program}{ops:Array Oper}{i:Nat}{b:List Nat}(h:(ri P ops).getD i none=some b):∃oi,ops[i]?=some oi∧DK P oi.op=true∧
 ∀j oj,ops[j]?=some oj→j≠i→j∉b→(∀e∈oj.after,Region.binds .any e=true→e.on≠i)→oi.apart ops oj=true:=by
 unfold ri at h;rw[aT,cS] at h;by_cases hi:i<ops.size
 ·rw[p6 hi] at h;simp only[jF,jE] at h;rw[fm hi] at h;dsimp only at h;cases hp:DK P ops[i].op<;>rw[hp] at h<;>simp only[cond_true,cond_false] at h
  ·cases h
  injection h with h
  refine⟨ops[i],fm hi,hp,fun j oj hj gH HV dY=>?_⟩;have ah:j<ops.size:=(fT.1 hj).1;rw[←h] at HV;have h2:¬(!(Nat.beq j i||(match ops[j]? with|some oj=>(oj.after.toList.any fun e=>Region.binds .any e&&Nat.beq e.on i)||ops[i].apart ops oj|none=>true)))=true:=fun hc=>HV (dm.2 ⟨cj.2 ah,hc⟩);rw[hj,ew gH] at h2;simp only[pY,iu,Bool.not_eq_false,gA] at h2;rcases h2 with h2|h2
  ·obtain⟨e,he,hb⟩:=uG.1 h2;rw[ar] at hb;exact absurd (cG hb.2) (dY e (by simpa using he) hb.1)
  ·exact h2
 ·rw[rf (by simpa using hi)] at h;cases h
def Di (E:Nat)(T:Snap):List (Nat×Snap)→Option (List (Nat×Snap))
 |[]=>some [(E,T)]
 |x::l=>bif Nat.beq x.1 E then(bif x.2.beq T then some (x::l) else none) else(Di E T l).map (x::·)
def kY (ops:Array Oper)(E:Nat):List Nat:=
 (List.range ops.size).filter fun i=> !aw E i&&(match ops[i]? with|some o=>o.after.toList.all fun e=> !Region.binds .any e||aw E e.on|none=>false)
def SJ (C:Ctx)(ops:Array Oper)(n:Nat)(ids:List Nat)(X:List (List PI))(nc:List (List Nat))(E:Nat)(T:Snap)(i:Nat):Option (Nat×Snap):=
 match ops[i]? with
 |some o=>(oN C (T.stO ids) ops o).bind fun r=>
  bif PI.beqs r.2 (X.getD i [])&&(nc.getD i []).all (aw E) then some (Nat.lor E (dD i),⟨uj (kh r.1) r.1 T.rs o.dst.toList,ids.map fun j=>gN r.1 (r.1.o j)⟩) else none
 |none=>none
def Fa (one:Nat→Option (Nat×Snap)):List Nat→List (Nat×Snap)→Option (List (Nat×Snap))
 |[],acc=>some acc
 |i::l,acc=>(one i).bind fun x=>x.2.hard fun T=>(Di x.1 T acc).bind fun acc=>Fa one l acc
def oJ (ops:Array Oper)(bad:List (Option (List Nat)))(E:Nat):List Nat:=
 match zH bad E (kY ops E) with
 |some i=>[i]
 |none=>kY ops E
def Dq (ops:Array Oper)(bad:List (Option (List Nat)))(one:Nat→Snap→Nat→Option (Nat×Snap)):List (Nat×Snap)→List (Nat×Snap)→Option (List (Nat×Snap))
 |[],acc=>some acc
 |x::l,acc=>
  match oJ ops bad x.1 with
  |[]=>none
  |rs=>(Fa (one x.1 x.2) rs acc).bind fun acc=>Dq ops bad one l acc
def E3 (ops:Array Oper)(bad:List (Option (List Nat)))(one:Nat→Snap→Nat→Option (Nat×Snap)):Nat→List (Nat×Snap)→Option Snap
 |0,L=>
  match L with
  |[x]=>bif (List.range ops.size).all (aw x.1) then some x.2 else none
  |_=>none
 |k+1,L=>(Dq ops bad one L []).bind fun L=>E3 ops bad one k L
theorem abX {E:Nat}{T:Snap}:∀{l l':List (Nat×Snap)},Di E T l=some l'→(E,T)∈l'∧∀x,x∈l→x∈l'
 |[],l',h=>by simp only[Di,bf] at h;subst h;simp
 |x::l,l',h=>by
  simp only[Di] at h;cases hb:Nat.beq x.1 E<;>simp only[hb,cond_true,cond_false] at h
  ·simp only[aG] at h;obtain⟨l2,h2,rfl⟩:=h;obtain⟨h3,h4⟩:=abX h2;exact⟨dk _ h3,fun y hy=>(cX.1 hy).elim (fun e=>e▸dv ..) fun hm=>dk _ (h4 y hm)⟩
  ·cases hs:x.2.beq T<;>simp only[hs,cond_true,cond_false] at h
   ·cases h
   ·cases h;refine⟨?_,fun y hy=>hy⟩;have e1:=cG hb;have e2:=Snap.beq_eq _ _ hs;subst e1;subst e2;simp
theorem ahY {one:Nat→Option (Nat×Snap)}:∀{rs:List Nat} {acc Ai:List (Nat×Snap)},Fa one rs acc=some Ai→(∀x,x∈acc→x∈Ai)∧∀i,i∈rs→∃x,one i=some x∧x∈Ai
 |[],acc,Ai,h=>by simp only[Fa,bf] at h;subst h;simp
 |i::rs,acc,Ai,h=>by
  simp only[Fa,Snap.hard_eq,az] at h;obtain⟨x,hx,ajF,h1,h2⟩:=h;obtain⟨h3,h4⟩:=abX h1;obtain⟨h5,h6⟩:=ahY h2;refine⟨fun y hy=>h5 y (h4 y hy),fun j hj=>?_⟩;rcases cX.1 hj with e|hm
  ·subst e;exact⟨x,hx,h5 _ h3⟩
  ·exact h6 j hm
theorem acg {ops:Array Oper}{bad:List (Option (List Nat))}{one:Nat→Snap→Nat→Option (Nat×Snap)}:∀{L acc L':List (Nat×Snap)},Dq ops bad one L acc=some L'→
 (∀x,x∈acc→x∈L')∧∀x,x∈L→oJ ops bad x.1≠[]∧∀i,i∈oJ ops bad x.1→∃y,one x.1 x.2 i=some y∧y∈L'
 |[],acc,L',h=>by simp only[Dq,bf] at h;subst h;simp
 |x::L,acc,L',h=>by
  simp only[Dq] at h;split at h
  ·cases h
  ·rename_i aJ;simp only[az] at h;obtain⟨ajF,h1,h2⟩:=h;obtain⟨h3,h4⟩:=ahY h1;obtain⟨h5,h6⟩:=acg h2;refine⟨fun y hy=>h5 y (h3 y hy),fun y hy=>?_⟩;rcases cX.1 hy with e|hm
   ·subst e;refine⟨fun e=>aJ e,fun i hi=>?_⟩;obtain⟨z,hz,hm⟩:=h4 i hi;exact⟨z,hz,h5 z hm⟩
   ·exact h6 y hm
def eh (X:List (List PI))(l:List Nat)(E:Nat):List PI:=l.flatMap fun i=>bif aw E i then[] else X.getD i []
theorem UB {X:List (List PI)}{E E':Nat}:∀(l:List Nat),(∀i,i∈l→aw E i=aw E' i)→eh X l E=eh X l E'
 |[],_=>rfl
 |i::l,h=>by
  have ih:=UB (X:=X) l fun j hj=>h j (dk _ hj);unfold eh at ih ⊢;simp only[uI];rw[ih,h i (dv ..)]
theorem Foot.comm_each {a b:List PI}(h:(gG a).comm (gG b)=true):∀p q,p∈a→q∈b→Comm p q:=by
 simp only[Foot.comm,ar] at h;obtain⟨h1,h2,h3,h4,h5,h6⟩:=h;intro p q hp hq;obtain⟨p1,p2,p3,p4⟩:=aaj hp;obtain⟨q1,q2,q3,q4⟩:=aaj hq;exact⟨fun t x y=>QQ h1 (p1 t x) (q1 t y),fun t x y=>QQ h2 (p1 t x) (q3 t y),fun t x y=>QQ h3 (q1 t x) (p3 t y),fun t x y=>Ns h4 (p2 t x) (q2 t y),fun t x y=>Ns h5 (p2 t x) (q4 t y),fun t x y=>Ns h6 (q2 t x) (p4 t y)⟩
def pz (X:List (List PI))(N:Nat):List (List Nat):=
 (List.range N).map fun i=>(List.range i).filter fun j=> !(gG (X.getD j [])).comm (gG (X.getD i []))
theorem iI (E i j:Nat):aw (Nat.lor E (dD i)) j=(aw E j||Nat.beq i j):=by
 rw[eQ]
 congr 1
 rw[rl];show(1<<<i).testBit j=_;rw[Nat.testBit_shiftLeft];by_cases h:i=j
 ·subst h;simp
 ·have h1:Nat.beq i j=false:=ew h;rw[h1];by_cases h2:i≤j
  ·have:j-i≠0:=by omega
   cases hk:j-i with
   |zero=>omega
   |succ k=>
    have:(1:Nat).testBit (k+1)=false:=by simp[Nat.testBit_succ]
    simp[this]
  ·simp[h2]
theorem ahs {X:List (List PI)}{N E i:Nat}(hi:i<N)(hb:aw E i=false)(dq:((pz X N).getD i []).all (aw E)=true)(Φ:aV)(ρ:Env):
 PI.runs Φ (eh X (List.range N) E) ρ=(PI.runs Φ (X.getD i []) ρ).bind (PI.runs Φ (eh X (List.range N) (Nat.lor E (dD i)))):=by
 obtain⟨l1,l2,hl⟩:=XF (cj.2 hi);have hp:=List.pairwise_lt_range (n:=N);rw[hl,XS] at hp;obtain⟨_,fa,hp3⟩:=hp;rw[XT] at fa;have lt1:∀j,j∈l1→j<i:=fun j hj=>hp3 j hj i (dv ..);have lt2:∀j,j∈l2→i<j:=fun j hj=>fa.1 j hj;have e0:∀E,eh X (l1++i::l2) E=eh X l1 E++((bif aw E i then[] else X.getD i [])++eh X l2 E):=fun E=>by simp[eh]
 have e1:eh X l1 (Nat.lor E (dD i))=eh X l1 E:=UB l1 fun j hj=>by
  rw[iI,ew (by have:=lt1 j hj;omega),wW]
 have e2:eh X l2 (Nat.lor E (dD i))=eh X l2 E:=UB l2 fun j hj=>by
  rw[iI,ew (by have:=lt2 j hj;omega),wW]
 have e3:aw (Nat.lor E (dD i)) i=true:=by rw[iI,gV,m8]
 rw[hl,e0,e0,e1,e2,e3,hb];simp only[cond_true,cond_false,sG]
 have at6:PI.runs Φ (eh X l1 E++X.getD i [])=PI.runs Φ (X.getD i []++eh X l1 E):=funext fun ρ=>PI.comms _ _ (fun p q hp hq=>by
  unfold eh at hp;obtain⟨j,hj,hp⟩:=mg.1 hp;cases oX:aw E j<;>simp only[oX,cond_true,cond_false] at hp
  case true=>cases hp
  have hc:(gG (X.getD j [])).comm (gG (X.getD i []))=true:=by
   cases gZ:(gG (X.getD j [])).comm (gG (X.getD i [])) with
   |true=>rfl
   |false=>
    have tj:(pz X N).getD i []=(List.range i).filter fun j=> !(gG (X.getD j [])).comm (gG (X.getD i [])):=by
     unfold pz;rw[aT,cS,p6 hi];rfl
    rw[tj] at dq;have:=bK.1 dq j (dm.2 ⟨cj.2 (lt1 j hj),by rw[gZ];rfl⟩);rw[oX] at this;cases this
  exact Foot.comm_each hc p q hp hq) ρ
 rw[←m9,oa,at6];have:=oa (Φ:=Φ) (a:=X.getD i []) (b:=eh X l1 E) (ρ:=ρ);rw[this,Option.bind_assoc]
 congr 1
 funext ρ1;rw[oa]
def eN (C:Ctx)(ops:Array Oper):List Nat→St→Option (List (List PI))
 |[],_=>some []
 |i::l,S=>
  match ops[i]? with
  |some o=>(oN C S ops o).bind fun r=>(eN C ops l r.1).map fun q=>r.2::q
  |none=>none
def aar (ops:Array Oper):Bool:=(List.range ops.size).all fun i=>match ops[i]? with
 |some o=>(match o.guard with|some (j,_)=>Nat.blt j i|none=>true)
 |none=>true
def xN (ops:Array Oper):Bool:=ops.toList.all fun o=>match o.guard with
 |some (j,_)=>o.after.toList.any fun e=>Region.binds .any e&&Nat.beq e.on j
 |none=>true
def bG:Operand→List Nat
 |.tmp t=>[t]
 |_=>[]
def zK:Option Operand→List Nat
 |some x=>bG x
 |none=>[]
def kO:Op→List Nat
 |.move x=>bG x
 |.assign x=>bG x
 |.unOp _ _ x=>bG x
 |.convert _ _ x=>bG x
 |.load _ x=>bG x
 |.fieldAddr _ x _=>bG x
 |.field _ x _=>bG x
 |.extract x _=>bG x
 |.nilCheck x=>bG x
 |.pick c x y=>bG c++bG x++bG y
 |.binOp _ _ x y _=>bG x++bG y
 |.indexAddr _ x i=>bG x++bG i
 |.index _ x i=>bG x++bG i
 |.lookup _ m k _=>bG m++bG k
 |.slice _ x lo hi _=>bG x++zK lo++zK hi
 |.build _ ps=>ps.toList.flatMap fun p=>bG p.2
 |.call c=>(match c.callee with|.value x=>bG x|_=>[])++c.args.toList.flatMap bG
 |.store _ x v=>bG x++bG v
 |.mapUpdate _ m k v=>bG m++bG k++bG v
 |_=>[]
def Ho (ops:Array Oper)(o:Oper):List Nat:=
 match o.guard with
 |some (j,_)=>(match(ops[j]?).bind (·.dst) with|some t=>[t]|none=>[])
 |none=>[]
def St.withR (S:St)(f:Nat→Sh):St:=⟨f,S.o,S.ver⟩
section
variable {C:Ctx} {S:St} {f:Nat→Sh} {gs:List (Nat×Bool)} {dst:Nat}
theorem zD {t:Nat}(h:f t=S.r t):kA (S.withR f) gs t=kA S gs t:=by
 have e:(S.withR f).r t=S.r t:=h;unfold kA;rw[e]
theorem ui {x:Operand}(h:∀t,t∈bG x→f t=S.r t):gl (S.withR f) gs x=gl S gs x:=by
 cases x<;>first|rfl|exact zD (h _ (oz.2 rfl))
theorem dK {x:Operand}(h:∀t,t∈bG x→f t=S.r t):use C (S.withR f) gs x=use C S gs x:=by
 cases x<;>first|rfl|(unfold use;simp only;rw[zD (h _ (oz.2 rfl))];rfl)
theorem ai1 {x:Operand}(h:∀t,t∈bG x→f t=S.r t):view C (S.withR f) gs x=view C S gs x:=by
 unfold view;rw[dK h];cases x<;>first|rfl|(simp only;rw[zD (h _ (oz.2 rfl))];rfl)
theorem Xi:∀{xs:List Operand},(∀t,t∈xs.flatMap bG→f t=S.r t)→ld C (S.withR f) gs xs=ld C S gs xs
 |[],_=>rfl
 |x::xs,h=>by
  simp only[ld]
  rw[dK fun t ht=>h t (mg.2 ⟨x,dv ..,ht⟩),Xi fun t ht=>by
   obtain⟨y,hy,rP⟩:=mg.1 ht;exact h t (mg.2 ⟨y,dk _ hy,rP⟩)]
theorem aE6 {x:Option Operand}(h:∀t,t∈zK x→f t=S.r t):Fi C (S.withR f) gs x=Fi C S gs x:=by
 cases x with
 |none=>rfl
 |some x=>exact dK h
theorem aE4 {e:PE}{x:Option Operand}(h:∀t,t∈zK x→f t=S.r t):Fh C (S.withR f) gs e x=Fh C S gs e x:=by
 cases x with
 |none=>rfl
 |some x=>exact dK h
theorem qJ:∀{xs:List Operand},(∀t,t∈xs.flatMap bG→f t=S.r t)→cg (S.withR f) gs xs=cg S gs xs
 |[],_=>rfl
 |x::xs,h=>by
  simp only[cg]
  rw[ui fun t ht=>h t (mg.2 ⟨x,dv ..,ht⟩),qJ fun t ht=>by
   obtain⟨y,hy,rP⟩:=mg.1 ht;exact h t (mg.2 ⟨y,dk _ hy,rP⟩)]
  rfl
theorem YP:∀(l:List Sh) (j i:Nat),rn (S.withR f) j l i=rn S j l i
 |[],_,_=>rfl
 |s::l,j,i=>by simp only[rn];rw[YP l j (i+1)];rfl
theorem iX {P:Nat→Prop}{a b:List Nat}(h:∀t,t∈a++b→P t):(∀t,t∈a→P t)∧∀t,t∈b→P t:=
 ⟨fun t ht=>h t (jd _ ht),fun t ht=>h t (jC _ ht)⟩
theorem af6 {x:Operand}(h:∀t,t∈bG x→f t=S.r t):pB C (S.withR f) gs dst x=pB C S gs dst x:=by
 unfold pB;rw[dK h];cases x<;>first|rfl|(simp only;rw[zD (h _ (oz.2 rfl))])
theorem aAh {c x y:Operand}(h:∀t,t∈bG c++bG x++bG y→f t=S.r t):yR C (S.withR f) gs dst c x y=yR C S gs dst c x y:=by
 obtain⟨h1,h3⟩:=iX h;obtain⟨h1,h2⟩:=iX h1;unfold yR;cases c<;>first|rfl|skip
 simp only;rw[zD (h1 _ (oz.2 rfl)),dK h2,dK h3]
theorem azS {op:BinOp}{T:TypeId}{x y:Operand}(h:∀t,t∈bG x++bG y→f t=S.r t):yG C (S.withR f) gs dst op T x y=yG C S gs dst op T x y:=by
 obtain⟨h1,h2⟩:=iX h;unfold yG;rw[dK h1,dK h2]
theorem aAm {op:UnOp}{x:Operand}(h:∀t,t∈bG x→f t=S.r t):yT C (S.withR f) gs dst op x=yT C S gs dst op x:=by unfold yT;rw[dK h]
theorem azW {s d:TypeId}{x:Operand}(h:∀t,t∈bG x→f t=S.r t):yI C (S.withR f) gs dst s d x=yI C S gs dst s d x:=by unfold yI;rw[dK h]
theorem az9 {T:TypeId}{x:Operand}(h:∀t,t∈bG x→f t=S.r t):yO C (S.withR f) gs dst T x=yO C S gs dst T x:=by unfold yO;rw[ai1 h]
theorem af4 {b:Bool}{x y:Operand}(h:∀t,t∈bG x++bG y→f t=S.r t):v5 C (S.withR f) gs dst b x y=v5 C S gs dst b x y:=by
 obtain⟨h1,h2⟩:=iX h;unfold v5;rw[dK h1,dK h2]
theorem aAb {T:TypeId}{x:Operand}(h:∀t,t∈bG x→f t=S.r t):tP C (S.withR f) gs dst T x=tP C S gs dst T x:=by
 unfold tP;rw[ui h,dK h];simp only[YP];rfl
theorem az0 {T:TypeId}{x:Operand}{i:Nat}(h:∀t,t∈bG x→f t=S.r t):yL C (S.withR f) gs dst T x i=yL C S gs dst T x i:=by
 unfold yL;rw[ui h,dK h];rfl
theorem az2 {T:TypeId}{x:Operand}{i:Nat}(h:∀t,t∈bG x→f t=S.r t):yK C (S.withR f) gs dst T x i=yK C S gs dst T x i:=by unfold yK;rw[dK h]
theorem az5 {T:TypeId}{x i:Operand}(h:∀t,t∈bG x++bG i→f t=S.r t):yN C (S.withR f) gs dst T x i=yN C S gs dst T x i:=by
 obtain⟨h1,h2⟩:=iX h;unfold yN;rw[dK h1,dK h2,ui h1];rfl
theorem az7 {T:TypeId}{x i:Operand}(h:∀t,t∈bG x++bG i→f t=S.r t):yM C (S.withR f) gs dst T x i=yM C S gs dst T x i:=by
 obtain⟨h1,h2⟩:=iX h;unfold yM;rw[dK h1,dK h2]
theorem azY {x:Operand}{i:Nat}(h:∀t,t∈bG x→f t=S.r t):yJ C (S.withR f) gs dst x i=yJ C S gs dst x i:=by unfold yJ;rw[dK h]
theorem aAd {T:TypeId}{m k:Operand}{ok:Bool}(h:∀t,t∈bG m++bG k→f t=S.r t):yP C (S.withR f) gs dst T m k ok=yP C S gs dst T m k ok:=by
 obtain⟨h1,h2⟩:=iX h;unfold yP;rw[ai1 h1,dK h2]
theorem aAk {T:TypeId}{x:Operand}{lo hi mx:Option Operand}(h:∀t,t∈bG x++zK lo++zK hi→f t=S.r t):yS C (S.withR f) gs dst T x lo hi mx=yS C S gs dst T x lo hi mx:=by
 obtain⟨h1,h3⟩:=iX h;obtain⟨h1,h2⟩:=iX h1;unfold yS;rw[dK h1];simp only[aE6 h2,aE4 h3]
theorem YG {zs:List Value}{parts:List (Nat×Operand)}(h:∀t,t∈(parts.flatMap fun p=>bG p.2)→f t=S.r t):∀(fs:List Field) (i off:Nat),j1 C (S.withR f) gs zs parts fs i off=j1 C S gs zs parts fs i off
 |[],_,_=>rfl
 |g::fs,i,off=>by
  simp only[j1,YG h fs];cases hp:parts.find? (fun p=>Nat.beq p.1 i) with
  |none=>rfl
  |some p=>
   have hu:use C (S.withR f) gs p.2=use C S gs p.2:=dK fun t ht=>h t (mg.2 ⟨p,xd hp,ht⟩);simp only[hu]
theorem azU {T:TypeId}{ps:List (Nat×Operand)}(h:∀t,t∈(ps.flatMap fun p=>bG p.2)→f t=S.r t):yH C (S.withR f) gs dst T ps=yH C S gs dst T ps:=by
 unfold yH;simp only[YG h];split
 ·rfl
 ·split
  ·split
   ·rename_i x y;rw[dK (x:=x) fun t ht=>h t (by simp[ht]),dK (x:=y) fun t ht=>h t (by simp[ht])]
   ·rfl
  ·rfl
 ·rfl
theorem aAf {x:Operand}(h:∀t,t∈bG x→f t=S.r t):yQ C (S.withR f) gs dst x=yQ C S gs dst x:=by
 unfold yQ;rw[dK h];cases x<;>first|rfl|(simp only;rw[zD (h _ (oz.2 rfl))];rfl)
def mu:Op→Bool
 |.move _|.pick ..|.binOp ..|.unOp ..|.convert ..|.load ..|.fieldAddr ..|.field ..|.indexAddr ..|.index ..|.extract ..|.lookup ..|.slice ..|.build ..|.nilCheck _|.makeInterface ..|.call _=>true
 |_=>false
theorem af8 {op:Op}(hq:mu op=true)(h:∀t,t∈kO op→f t=S.r t):nN C (S.withR f) gs dst op=nN C S gs dst op:=by
 cases op<;>simp only[mu] at hq<;>simp only[kO] at h<;>simp only[nN]
 case move=>exact af6 h
 case pick=>exact aAh h
 case binOp=>exact azS h
 case unOp=>exact aAm h
 case convert=>exact azW h
 case load=>exact aAb h
 case fieldAddr=>exact az0 h
 case field=>exact az2 h
 case indexAddr=>exact az5 h
 case index=>exact az7 h
 case extract=>exact azY h
 case lookup=>exact aAd h
 case slice=>exact aAk h
 case build=>exact azU h
 case nilCheck=>exact aAf h
 case call c=>
  obtain⟨_,h2⟩:=iX h;split
  ·rename_i x T _ ha _;exact az9 fun t ht=>h2 t (by rw[ha];simp[ht])
  ·rename_i x y _ ha;exact af4 fun t ht=>h2 t (by rw[ha];simpa using ht)
  ·rename_i x y _ ha;exact af4 fun t ht=>h2 t (by rw[ha];simpa using ht)
  ·rfl
 all_goals (cases hq;done)
theorem aAO {op:Op}(h:∀t,t∈kO op→f t=S.r t)(hq:mu op=true):tR (S.withR f) gs op=tR S gs op:=by
 cases op<;>simp only[mu] at hq<;>simp only[kO] at h<;>simp only[tR]
 case build T ps=>exact qJ fun t ht=>h t (by
  obtain⟨x,hx,QF⟩:=mg.1 ht;obtain⟨p,hp,rfl⟩:=ej.1 hx;exact mg.2 ⟨p,hp,QF⟩)
 case pick c x y=>
  obtain⟨h1,h3⟩:=iX h;obtain⟨h1,h2⟩:=iX h1;refine qJ fun t ht=>?_;simp only[uI,XL,mf,dj] at ht;exact ht.elim (h2 t) (h3 t)
 case slice T x lo hi mx=>
  obtain⟨h1,h3⟩:=iX h;obtain⟨h1,h2⟩:=iX h1;exact qJ fun t ht=>h1 t (by simpa using ht)
 all_goals first|rfl|(cases hq;done)
theorem aAP {op:Op}(h:∀t,t∈kO op→f t=S.r t)(hq:mu op=true):pre C (S.withR f) gs op=pre C S gs op:=by
 have vx:=hq;cases op<;>simp only[mu] at hq<;>simp only[pre,aAO h vx]
 case load T x=>simp only[kO] at h;rw[ui h];rfl
 all_goals first|(cases hq;done)|skip
theorem ate {ops:Array Oper}{o:Oper}(h:∀t,t∈Ho ops o→f t=S.r t):oV (S.withR f) ops o=oV S ops o:=by
 unfold oV;cases hg:o.guard with
 |none=>rfl
 |some jw=>
  obtain⟨j,want⟩:=jw;simp only;cases ht:(ops[j]?).bind (·.dst) with
  |none=>rfl
  |some t=>
   simp only;have:(S.withR f).r t=S.r t:=h t (by unfold Ho;rw[hg];simp[ht]);rw[this]
end
def Cg (C:Ctx)(S:St)(gs:List (Nat×Bool))(dst:Nat)(op:Op):Option (Sh×List PI):=
 match op with
 |.assign x=>
  match gs with
  |[]=>bif C.fr.any (Nat.beq dst)&&(cg S [] [x]).isEmpty then(match pB C S [] dst x with|some r=>bif mJ r.1 then some r else none|none=>none) else none
  |_=>none
 |.call c=>
  match nN C S gs dst (.call c) with
  |some r=>bif qI r.1&&iL gs (some dst) r.2 then some (iK gs r.1,r.2) else none
  |none=>
   bif (cg S gs c.args.toList).isEmpty then
    match c.callee with
    |.value (.func f)=>(match oQ C S gs dst f c.args.toList with|some r=>bif iL gs (some dst) r.2.2 then some (iK gs r.2.1,r.2.2) else none|none=>none)
    |.value x=>(match nr C S gs dst x c.args.toList with|some r=>bif iL gs (some dst) r.2.2 then some (iK gs r.2.1,r.2.2) else none|none=>none)
    |_=>none
   else none
 |op=>bif mu op&&(pre C S gs op).isEmpty then(match nN C S gs dst op with|some r=>bif qI r.1&&iL gs (some dst) r.2 then some (iK gs r.1,r.2) else none|none=>none) else none
def Ch (C:Ctx)(S:St)(gs:List (Nat×Bool))(op:Op):Option (List PI):=
 match op,gs with
 |.store T x v,[]=>
  match gl S [] x with
  |.eptr ..=>bif (cg S [] [v]).isEmpty then(sR C S T x v).map (·.2) else none
  |_=>none
 |.mapUpdate T m k v,[]=>bif (cg S [] [k,v]).isEmpty then(rq C S T m k v).map (·.2) else none
 |.panic _,[]=>some [.chk (.nt (.con (.bool true)))]
 |_,_=>none
def sX (C:Ctx)(S:St)(ops:Array Oper)(o:Oper):Option (Sh×List PI):=
 match C.yl with
 |some _=>none
 |none=>(oV S ops o).bind fun gs=>
  match o.dst with
  |some dst=>Cg C S gs dst o.op
  |none=>(Ch C S gs o.op).map fun l=>(.none,l)
def mZ (S:St)(o:Oper)(s:Sh):St:=match o.dst with|some d=>S.setR d s|none=>S
section
variable {C:Ctx} {S:St} {f:Nat→Sh} {gs:List (Nat×Bool)} {dst:Nat}
theorem apw {g:Nat}{xs:List Operand}(h:∀t,t∈xs.flatMap bG→f t=S.r t)(he:(cg S gs xs).isEmpty=true):
 (match oQ C (S.withR f) gs dst g xs with|some r=>bif iL gs (some dst) r.2.2 then some (iK gs r.2.1,r.2.2) else none|none=>none)=(match oQ C S gs dst g xs with|some r=>bif iL gs (some dst) r.2.2 then some (iK gs r.2.1,r.2.2) else none|none=>none):=by
 have ho:=qJ (gs:=gs) h;have kJ:=rh.1 he;unfold oQ;cases C.sig g with
 |none=>rfl
 |some s=>
  simp only[kF];cases s.mode<;>first|rfl|skip
  simp only[ho,kJ,St.fzs,XN,Xi h];cases ld C S gs xs with
  |none=>rfl
  |some u=>
   simp only[kF];cases Ty.subs u.1 s.args<;>rfl
theorem apr {x:Operand}{xs:List Operand}(hx:∀t,t∈bG x→f t=S.r t)(h:∀t,t∈xs.flatMap bG→f t=S.r t)(he:(cg S gs xs).isEmpty=true):
 (match nr C (S.withR f) gs dst x xs with|some r=>bif iL gs (some dst) r.2.2 then some (iK gs r.2.1,r.2.2) else none|none=>none)=(match nr C S gs dst x xs with|some r=>bif iL gs (some dst) r.2.2 then some (iK gs r.2.1,r.2.2) else none|none=>none):=by
 have ho:=qJ (gs:=gs) h;have kJ:=rh.1 he;unfold nr;rw[dK hx];cases use C S gs x with
 |none=>rfl
 |some y=>
  obtain⟨ty,e⟩:=y;cases ty with
  |fn aa r=>
   simp only;cases lQ aa r with
   |some _=>rfl
   |none=>
    simp only[ho,kJ,St.fzs,XN,Xi h];cases ld C S gs xs with
    |none=>rfl
    |some u=>
     simp only[kF];cases Ty.subs u.1 aa<;>rfl
  |_=>rfl
theorem aqp {op:Op}(h:∀t,t∈kO op→f t=S.r t):Cg C (S.withR f) gs dst op=Cg C S gs dst op:=by
 have other:∀op,(∀t,t∈kO op→f t=S.r t)→(bif mu op&&(pre C (S.withR f) gs op).isEmpty then(match nN C (S.withR f) gs dst op with|some r=>bif qI r.1&&iL gs (some dst) r.2 then some (iK gs r.1,r.2) else none|none=>none) else none)=
  (bif mu op&&(pre C S gs op).isEmpty then(match nN C S gs dst op with|some r=>bif qI r.1&&iL gs (some dst) r.2 then some (iK gs r.1,r.2) else none|none=>none) else none):=by
  intro op h;cases hq:mu op with
  |false=>rfl
  |true=>rw[aAP h hq,af8 hq h]
 unfold Cg;split
 ·rename_i x;simp only[kO] at h;rw[af6 h,qJ (xs:=[x]) fun t ht=>h t (by simpa using ht)]
 ·rename_i c;have h':=h;simp only[kO] at h';obtain⟨h1,h2⟩:=iX h';rw[af8 (op:=.call c) rfl h,qJ h2];split
  ·rfl
  ·cases he:(cg S gs c.args.toList).isEmpty with
   |false=>rfl
   |true=>
    simp only[cond_true];split
    ·exact apw h2 he
    ·rename_i x _ hc;exact apr (fun t ht=>h1 t (by rw[hc];exact ht)) h2 he
    ·rfl
 ·exact other _ h
theorem aqq {op:Op}(h:∀t,t∈kO op→f t=S.r t):Ch C (S.withR f) gs op=Ch C S gs op:=by
 unfold Ch;split
 ·rename_i T x v;simp only[kO] at h;obtain⟨h1,h2⟩:=iX h;rw[ui h1,qJ (xs:=[v]) fun t ht=>h2 t (by simpa using ht)];split
  ·rename_i j ver size off kc;cases(cg S [] [v]).isEmpty with
   |false=>rfl
   |true=>
    simp only[cond_true];unfold sR;rw[ui h1,dK h2,kc];simp only;have eo:(S.withR f).o=S.o:=rfl;have ev:(S.withR f).ver=S.ver:=rfl;rw[eo,ev];cases C.P.info? T with
    |none=>rfl
    |some inf=>
     simp only;cases Nat.beq ver (S.ver j) with
     |false=>rfl
     |true=>
      simp only[cond_true];cases S.o j with
      |row T' e0=>
       cases use C S [] v with
       |none=>cases e0<;>rfl
       |some y=>
        obtain⟨t,e⟩:=y;cases e0<;>simp only<;>(generalize (_&&_:Bool)=b;cases b<;>rfl)
      |_=>rfl
  ·rfl
 ·rename_i T m k v;simp only[kO] at h;obtain⟨h1,h3⟩:=iX h;obtain⟨h1,h2⟩:=iX h1
  rw[qJ (xs:=[k,v]) fun t ht=>by
   simp only[uI,XL,mf,dj] at ht;exact ht.elim (h2 t) (h3 t)]
  cases(cg S [] [k,v]).isEmpty with
  |false=>rfl
  |true=>
   simp only[cond_true];unfold rq;rw[ui h1,dK h2,dK h3];have eo:(S.withR f).o=S.o:=rfl;have ev:(S.withR f).ver=S.ver:=rfl;rw[eo,ev];cases C.P.underlying T with
   |none=>rfl
   |some desc=>
    cases desc with
    |map K E=>
     cases gl S [] m with
     |obj j ver=>
      simp only;cases Nat.beq ver (S.ver j) with
      |false=>rfl
      |true=>
       simp only[cond_true];cases S.o j with
       |mp kt et=>
        cases use C S [] k with
        |none=>rfl
        |some y=>
         cases use C S [] v with
         |none=>rfl
         |some z=>
          obtain⟨tk,ek⟩:=y;obtain⟨tv,ev⟩:=z;simp only;generalize (_&&_:Bool)=b;cases b<;>rfl
       |_=>rfl
     |_=>rfl
    |_=>rfl
 ·rfl
 ·rfl
theorem aqs {ops:Array Oper}{o:Oper}(h:∀t,t∈kO o.op++Ho ops o→f t=S.r t):sX C (S.withR f) ops o=sX C S ops o:=by
 obtain⟨h1,h2⟩:=iX h;unfold sX;rw[ate h2];split
 ·rfl
 ·cases oV S ops o with
  |none=>rfl
  |some gs=>
   simp only[kF];split
   ·exact aqp h1
   ·rw[aqq h1]
theorem aBM {S:St}{t:Nat}{s:Sh}(h:S.r t=s)(hs:mJ s=true):wG S t t=some (S,[]):=by
 unfold wG;rw[h];cases s<;>first|rfl|cases hs
theorem aqr {ops:Array Oper}{o:Oper}{q:Sh×List PI}(h:sX C S ops o=some q):oN C S ops o=some (mZ S o q.1,q.2):=by
 unfold sX at h;split at h
 case h_1=>cases h
 rename_i jR;simp only[az] at h;obtain⟨gs,dF,h⟩:=h;have hY:xA C S ops o=none:=by
  unfold xA;rw[jR];split<;>first|rfl|(rename_i hx;cases hx;done)|(rename_i hx _;cases hx;done)
 have fin:∀{S':St},pre C S gs o.op++pE C S gs o=[]→core C S gs o=some (S',q.2)→jj C (post C S' o) S'=some (S',[])→iL gs o.dst q.2=true→oN C S ops o=some (S',q.2):=by
  intro S' h1 h2 h3 h4;unfold oN xz BP;rw[hY,dF];simp only[kF,h1,jj,h2,h3,h4,cond_true,sG,mf]
 cases hd:o.dst with
 |some dst=>
  simp only[hd] at h;have cP:mZ S o q.1=S.setR dst q.1:=by unfold mZ;rw[hd]
  rw[cP];unfold Cg at h;split at h
  ·rename_i x bO;split at h
   case h_2=>cases h
   cases hb:(C.fr.any (Nat.beq dst)&&(cg S [] [x]).isEmpty)<;>simp only[hb,cond_true,cond_false] at h
   ·cases h
   simp only[ar] at hb;split at h
   case h_2=>cases h
   rename_i r hr;cases aaR:mJ r.1<;>simp only[aaR,cond_true,cond_false] at h
   ·cases h
   cases h;have he:=rh.1 hb.2;refine fin ?_ ?_ ?_ rfl
   ·rw[bO];unfold pE;rw[bO,hd];simp only[hb.1,he,cond_true,pre,tR,Ad,mf]
   ·unfold core;rw[hd];simp only[bO,nN,hb.1,cond_true,hr]
   ·unfold post;rw[bO,hd];simp only[jj,Gh.run];rw[aBM (s:=q.1) (by simp[St.setR,aW]) aaR];rfl
  ·rename_i c bO;have Qb:pre C S gs o.op++pE C S gs o=[]:=by
        rw[bO];unfold pE;rw[bO];simp[pre,tR]
   have jO:∀S':St,jj C (post C S' o) S'=some (S',[]):=fun S'=>by
        unfold post;rw[bO];rfl
   split at h
   ·rename_i r hr;cases hb:(qI r.1&&iL gs (some dst) r.2)<;>simp only[hb,cond_true,cond_false] at h
    ·cases h
    cases h;simp only[ar] at hb;refine fin Qb ?_ (jO _) (by rw[hd];exact hb.2);unfold core;rw[hd];simp only[bO,hr,hb.1,cond_true]
   ·rename_i hr;cases he:(cg S gs c.args.toList).isEmpty<;>simp only[he,cond_true,cond_false] at h
    ·cases h
    have kJ:=rh.1 he;have sfz:∀b:Bool,(bif b then S else S.fzs (cg S gs c.args.toList))=S:=fun b=>by rw[kJ];cases b<;>rfl
    split at h
    ·rename_i f hc;split at h
     case h_2=>cases h
     rename_i r fw;cases hb:iL gs (some dst) r.2.2<;>simp only[hb,cond_true,cond_false] at h
     ·cases h
     cases h;refine fin Qb ?_ (jO _) (by rw[hd];exact hb);have hS:r.1=S:=by
      simp only[oQ,az] at fw;obtain⟨s,hs,fw⟩:=fw;split at fw
      case h_2=>cases fw
      simp only[az] at fw;obtain⟨u,hu,fw⟩:=fw;cases cl:Ty.subs u.1 s.args<;>simp only[cl,cond_true,cond_false] at fw
      ·cases fw
      cases fw;exact sfz _
     unfold core;rw[hd];simp only[bO,hr,hc,fw,hS]
    ·rename_i x PU hc;split at h
     case h_2=>cases h
     rename_i r fw;cases hb:iL gs (some dst) r.2.2<;>simp only[hb,cond_true,cond_false] at h
     ·cases h
     cases h;refine fin Qb ?_ (jO _) (by rw[hd];exact hb);have hS:r.1=S:=by
      unfold nr at fw;split at fw
      case h_2=>cases fw
      rename_i aa r0 e Qw;split at fw
      case h_1=>cases fw
      simp only[az] at fw;obtain⟨u,hu,fw⟩:=fw;cases cl:Ty.subs u.1 aa<;>simp only[cl,cond_true,cond_false] at fw
      ·cases fw
      cases fw;exact sfz _
     unfold core;rw[hd];simp only[bO,hr,hc];cases x with
     |func f=>exact absurd rfl (PU f)
     |_=>simp only[fw,hS]
    ·cases h
  ·rename_i hna dq;cases hb:(mu o.op&&(pre C S gs o.op).isEmpty)<;>simp only[hb,cond_true,cond_false] at h
   ·cases h
   simp only[ar] at hb;split at h
   case h_2=>cases h
   rename_i r hr;cases dx:(qI r.1&&iL gs (some dst) r.2)<;>simp only[dx,cond_true,cond_false] at h
   ·cases h
   cases h;simp only[ar] at dx;have cY:pE C S gs o=[]:=by
        unfold pE;split
        ·rename_i x t e _;exact absurd e (hna x)
        ·rfl
   have jO:∀S':St,jj C (post C S' o) S'=some (S',[]):=fun S'=>by
        have:post C S' o=[]:=by
         unfold post;split
         ·rename_i x t e _;exact absurd e (hna x)
         ·rename_i T t e _;rw[e] at hb;simp[mu] at hb
         ·rename_i T x v e;rw[e] at hb;simp[mu] at hb
         ·rfl
        rw[this];rfl
   refine fin (by rw[cY,rh.1 hb.2];rfl) ?_ (jO _) (by rw[hd];exact dx.2);unfold core;rw[hd];simp only[hr,dx.1,cond_true]
 |none=>
  simp only[hd,aG] at h;obtain⟨l,h,rfl⟩:=h;have cP:mZ S o (.none:Sh)=S:=by unfold mZ;rw[hd]
  show oN C S ops o=some (mZ S o .none,l);rw[cP];have cY:pE C S gs o=[]:=by unfold pE;rw[hd];split<;>first|rfl|(rename_i hx;cases hx)
  unfold Ch at h;split at h
  ·rename_i T x v bO;split at h
   case h_2=>cases h
   rename_i j ver size off kc;cases he:(cg S [] [v]).isEmpty<;>simp only[he,cond_true,cond_false] at h
   ·cases h
   simp only[aG] at h;obtain⟨r,hr,rfl⟩:=h;have hS:r.1=S:=by
        unfold sR at hr;split at hr
        case h_2=>cases hr
        rw[kc] at hr;simp only at hr;cases hv:Nat.beq ver (S.ver j)<;>simp only[hv,cond_true,cond_false] at hr
        ·cases hr
        split at hr
        ·revert hr;generalize (_&&_:Bool)=b;intro hr;cases b<;>simp only[cond_true,cond_false] at hr<;>cases hr;rfl
        ·revert hr;generalize (_&&_:Bool)=b;intro hr;cases b<;>simp only[cond_true,cond_false] at hr<;>cases hr;rfl
        ·cases hr
   refine fin ?_ ?_ ?_ rfl
   ·rw[cY,bO];simp only[pre,tR,kc,rh.1 he,Ad,mf]
   ·unfold core;rw[hd];simp only[bO,hr];rw[←hS]
   ·unfold post;rw[bO];simp only[kc];rfl
  ·rename_i T m k v bO;cases he:(cg S [] [k,v]).isEmpty<;>simp only[he,cond_true,cond_false] at h
   ·cases h
   simp only[aG] at h;obtain⟨r,hr,rfl⟩:=h;have hS:r.1=S:=by
        unfold rq at hr;split at hr
        ·rename_i K _ j ver _ _;cases hv:Nat.beq ver (S.ver j)<;>simp only[hv,cond_true,cond_false] at hr
         ·cases hr
         split at hr
         ·revert hr;generalize (_&&_:Bool)=b;intro hr;cases b<;>simp only[cond_true,cond_false] at hr<;>cases hr;rfl
         ·cases hr
        ·cases hr
   refine fin ?_ ?_ ?_ rfl
   ·rw[cY,bO];simp only[pre,tR,rh.1 he,Ad,mf]
   ·unfold core;rw[hd];simp only[bO,hr];rw[←hS]
   ·unfold post;rw[bO];rfl
  ·rename_i x bO;cases h;refine fin ?_ ?_ ?_ rfl
   ·rw[cY,bO];rfl
   ·unfold core;rw[hd];simp only[bO]
   ·unfold post;rw[bO];rfl
  ·cases h
end
def fi (ops:Array Oper)(shs:List Sh)(l:List Nat)(f:Nat→Sh):Nat→Sh:=
 l.foldl (fun f i=>match(ops[i]?).bind (·.dst) with|some d=>bY f d (shs.getD i .none)|none=>f) f
def xJ (C:Ctx)(S:St)(ops:Array Oper):Nat→Option (List (Sh×List PI))
 |0=>some []
 |k+1=>(xJ C S ops k).bind fun q=>match ops[k]? with
  |some o=>(sX C (S.withR (fi ops (q.map (·.1)) (List.range k) S.r)) ops o).map fun r=>q++[r]
  |none=>none
def dw (ops:Array Oper):Nat→List Nat
 |0=>[]
 |k+1=>dw ops k++[match ops[k]? with
  |some o=>o.after.toList.foldr (fun e m=>bif Region.binds .any e then Nat.lor (Nat.lor (dD e.on) ((dw ops k).getD e.on 0)) m else m) 0
  |none=>0]
def ahk (ops:Array Oper)(o:Oper):List Nat:=kO o.op++Ho ops o
def aae (ops:Array Oper)(nc:List (List Nat))(clo:List Nat)(i:Nat):Bool:=
 match ops[i]? with
 |some o=>(nc.getD i []).all (aw (clo.getD i 0))&&(o.after.toList.all fun e=> !Region.binds .any e||Nat.blt e.on i)&&
   (ahk ops o).all fun t=>(List.range ops.size).all fun j=>match(ops[j]?).bind (·.dst) with
     |some d=> !Nat.beq d t||((Nat.blt j i&&aw (clo.getD i 0) j)||aw (clo.getD j 0) i)
     |none=>true
 |none=>false
def Hl (ops:Array Oper)(i:Nat):Bool:=match ops[i]? with|some o=>o.after.toList.all fun e=> !Region.binds .any e||Nat.blt e.on i|none=>false
def Ci (ops:Array Oper)(nc:List (List Nat))(clo:List Nat)(m:Nat):Bool:=(List.range m).all (aae ops nc clo)&&(List.range ops.size).all (Hl ops)
def og (clo:List Nat):Nat→Nat
 |0=>0
 |k+1=>bif (List.range k).all (aw (clo.getD k 0)) then og clo k else k+1
theorem ah0 (clo:List Nat):∀k,og clo k≤k
 |0=>bk _
 |k+1=>by
  unfold og;cases(List.range k).all (aw (clo.getD k 0)) with
  |true=>exact Nat.le_succ_of_le (ah0 clo k)
  |false=>exact bk _
theorem ahZ (clo:List Nat):∀k i,og clo k≤i→i<k→∀j,j<i→aw (clo.getD i 0) j=true
 |0,i,_,h=>by omega
 |k+1,i,h1,h2=>by
  unfold og at h1;cases hb:(List.range k).all (aw (clo.getD k 0)) with
  |true=>
   rw[hb] at h1;by_cases e:i=k
   ·subst e;exact fun j hj=>bK.1 hb j (cj.2 hj)
   ·exact ahZ clo k i h1 (by omega)
  |false=>rw[hb] at h1;simp only[cond_false] at h1;omega
def aaf (C:Ctx)(ops:Array Oper)(S:St):Option (St×List PI):=
 (xJ C S ops (og (dw ops ops.size) ops.size)).bind fun q=>
    bif Ci ops (pz (q.map (·.2)) (og (dw ops ops.size) ops.size)) (dw ops ops.size) (og (dw ops ops.size) ops.size) then
     (nq C ops (List.range' (og (dw ops ops.size) ops.size) (ops.size-og (dw ops ops.size) ops.size)) (S.withR (fi ops (q.map (·.1)) (List.range (og (dw ops ops.size) ops.size)) S.r))).map fun r=>(r.1,(q.map (·.2)).flatten++r.2)
    else none
theorem Mu (ops:Array Oper)(shs:List Sh)(i:Nat)(l:List Nat)(f:Nat→Sh):fi ops shs (i::l) f=fi ops shs l (match(ops[i]?).bind (·.dst) with|some d=>bY f d (shs.getD i .none)|none=>f):=rfl
theorem E5 {ops:Array Oper}{shs:List Sh}{t:Nat}:∀{l:List Nat} {f:Nat→Sh},(∀i,i∈l→(ops[i]?).bind (·.dst)≠some t)→fi ops shs l f t=f t
 |[],_,_=>rfl
 |i::l,f,h=>by
  rw[Mu,E5 fun j hj=>h j (dk _ hj)];have:=h i (dv ..);cases hd:(ops[i]?).bind (·.dst) with
  |none=>rfl
  |some d=>exact bA _ _ (fun e=>this (by rw[hd,e]))
def Nc (ops:Array Oper):Prop:=∀(i j t:Nat),(ops[i]?).bind (·.dst)=some t→(ops[j]?).bind (·.dst)=some t→i=j
theorem Mt {ops:Array Oper}(ho:Nc ops){shs:List Sh}{t i:Nat}(ht:(ops[i]?).bind (·.dst)=some t):∀{l:List Nat} {f:Nat→Sh},i∈l→fi ops shs l f t=shs.getD i .none
 |[],_,h=>nomatch h
 |j::l,f,h=>by
  rw[Mu];by_cases hl:i∈l
  ·exact Mt ho ht hl
  ·have e:i=j:=(cX.1 h).resolve_right hl;subst e;rw[E5 fun k hk e=>hl (by rw[ho i k t ht e];exact hk),ht];exact aW _ _ _
theorem ahQ {ops:Array Oper}(ho:Nc ops){shs UN:List Sh}{l m:List Nat}{f:Nat→Sh}{t:Nat}(h1:∀i,(ops[i]?).bind (·.dst)=some t→(i∈l↔i∈m))(h2:∀i,i∈l→(ops[i]?).bind (·.dst)=some t→shs.getD i .none=UN.getD i .none):fi ops shs l f t=fi ops UN m f t:=by
 by_cases hh:∃i,i∈l∧(ops[i]?).bind (·.dst)=some t
 ·obtain⟨i,hi,ht⟩:=hh;rw[Mt ho ht hi,Mt ho ht ((h1 i ht).1 hi),h2 i hi ht]
 ·rw[E5 fun i hi e=>hh ⟨i,hi,e⟩,E5 fun i hi e=>hh ⟨i,(h1 i e).2 hi,e⟩]
theorem azP {ops:Array Oper}(h:(ops.toList.filterMap (·.dst)).Nodup):Nc ops:=by
 intro i j t hi hj;rw[az] at hi hj;obtain⟨oi,h1,h2⟩:=hi;obtain⟨oj,h3,h4⟩:=hj;by_cases e:i=j
 ·exact e
 ·exact(uT.dst_once h h1 h3 h2 h4 e).elim
theorem OY {C:Ctx}{S:St}{ops:Array Oper}:∀{k:Nat} {q:List (Sh×List PI)},xJ C S ops k=some q→q.length=k∧∀i,i<k→∃o,ops[i]?=some o∧
 sX C (S.withR (fi ops (q.map (·.1)) (List.range i) S.r)) ops o=some ((q.map (·.1)).getD i .none,(q.map (·.2)).getD i [])
 |0,q,h=>by simp only[xJ,bf] at h;subst h;exact⟨rfl,fun i hi=>by omega⟩
 |k+1,q,h=>by
  simp only[xJ,az] at h;obtain⟨p,hp,h⟩:=h;split at h
  case h_2=>cases h
  rename_i o ho;simp only[aG] at h;obtain⟨r,hr,rfl⟩:=h;obtain⟨l1,aX⟩:=OY hp;have same:∀i,i≤k→fi ops ((p++[r]).map (·.1)) (List.range i) S.r=fi ops (p.map (·.1)) (List.range i) S.r:=by
   intro i hi;have key:∀(l:List Nat) (f:Nat→Sh),(∀j,j∈l→j<p.length)→fi ops ((p++[r]).map (·.1)) l f=fi ops (p.map (·.1)) l f:=by
    intro l
    induction l with
    |nil=>intro f _;rfl
    |cons j l ih=>
     intro f hl;have hj:=hl j (dv ..);have e:((p++[r]).map (·.1)).getD j .none=(p.map (·.1)).getD j .none:=by
       rw[oy,aT,jZ (by simpa using hj),←aT]
     rw[Mu,Mu,e,ih _ fun m hm=>hl m (dk _ hm)]
   exact key _ _ fun j hj=>by have:=cj.1 hj;omega
  refine⟨by simp[l1],fun i hi=>?_⟩;by_cases e:i=k
  ·subst e;refine⟨o,ho,?_⟩;rw[same i (bk _),hr];have e1:((p++[r]).map (·.1)).getD i .none=r.1:=by
    rw[oy,aT,kC (by simp[l1])];simp[l1]
   have e2:((p++[r]).map (·.2)).getD i []=r.2:=by
    rw[oy,aT,kC (by simp[l1])];simp[l1]
   rw[e1,e2]
  ·obtain⟨o',h1,h2⟩:=aX i (by omega);refine⟨o',h1,?_⟩;rw[same i (by omega),h2];have:i<p.length:=by omega
   simp only[oy,aT];rw[jZ (by simpa using this),jZ (by simpa using this)]
theorem G9 (ops:Array Oper):∀k,(dw ops k).length=k
 |0=>rfl
 |k+1=>by simp[dw,G9 ops k]
theorem Zz (ops:Array Oper){k m i:Nat}(h:i<k)(hm:k≤m):(dw ops m).getD i 0=(dw ops k).getD i 0:=by
 induction m with
 |zero=>omega
 |succ m ih=>
  by_cases e:k=m+1
  ·rw[e]
  ·rw[←ih (by omega)];simp only[dw,aT];rw[jZ (by rw[G9];omega)]
theorem Ha {ops:Array Oper}{N i m:Nat}{o:Oper}(hi:i<N)(ho:ops[i]?=some o)(ah:(o.after.toList.all fun e=> !Region.binds .any e||Nat.blt e.on i)=true)(h:aw ((dw ops N).getD i 0) m=true):
 ∃e,e∈o.after.toList∧Region.binds .any e=true∧(m=e.on∨aw ((dw ops N).getD e.on 0) m=true):=by
 rw[Zz ops (k:=i+1) (by omega) (by omega)] at h
 have e1:(dw ops (i+1)).getD i 0=o.after.toList.foldr (fun e m=>bif Region.binds .any e then Nat.lor (Nat.lor (dD e.on) ((dw ops i).getD e.on 0)) m else m) 0:=by
  simp only[dw,aT];rw[kC (by rw[G9];exact bk _),G9];simp[ho]
 rw[e1] at h;have aX:=bK.1 ah;generalize o.after.toList=l at h aX
 induction l with
 |nil=>rw[rl] at h;simp at h
 |cons e l ih=>
  simp only[List.foldr_cons] at h;cases hb:Region.binds .any e<;>rw[hb] at h<;>simp only[cond_true,cond_false] at h
  ·obtain⟨e',h1,h2⟩:=ih h (fun x hx=>aX x (dk _ hx));exact⟨e',dk _ h1,h2⟩
  ·rw[eQ,eQ,gA,gA] at h;have pj:e.on<i:=by
        have:=aX e (dv ..);rw[hb] at this;simpa [ix] using this
   rcases h with(h|h)|h
   ·refine⟨e,dv ..,hb,.inl ?_⟩;have:=iI 0 e.on m;have z:aw 0 m=false:=by rw[rl];simp
    rw[eQ,z,pY,pY,h] at this;exact(cG this.symm).symm
   ·refine⟨e,dv ..,hb,.inr ?_⟩;rw[Zz ops pj (by omega)];exact h
   ·obtain⟨e',h1,h2⟩:=ih h (fun x hx=>aX x (dk _ hx));exact⟨e',dk _ h1,h2⟩
section
variable {C:Ctx} {S:St} {ρ:Env} {σ:Im} {own:Nat→Option Nat} {hv:Nat→Value} {w0:World} {σ0:Base} {A:Nat→Prop} {a:Act} {w:World} {n:Nat} {ids:List Nat} {Φ:aV}
theorem ahl {ops:Array Oper}{listed:Array Bool}{E:Nat}(aS:listed.size=ops.size)(hl:∀i,listed.getD i false=aw E i)(i:Nat):i∈Region.ready .any ops listed↔i∈kY ops E:=by
 unfold Region.ready kY;simp only[dm,cj];refine and_congr_right fun hi=>?_;have h1:listed.getD i true=aw E i:=by
  rw[←hl i];simp only[dL];rw[fm (by omega)];rfl
 have h2:ops[i]?=some ops[i]:=fm hi;rw[h1,h2];simp only[jF,jE,←Xs,hl]
def uh (ops:Array Oper)(E:Nat):Nat→Prop:=fun t=>∃i o,aw E i=true∧ops[i]?=some o∧o.dst=some t
def q5 (ops:Array Oper)(E:Nat):Nat:=((List.range ops.size).filter fun i=> !aw E i).length
theorem aEU {ops:Array Oper}{E i:Nat}(hi:i<ops.size)(hb:aw E i=false):q5 ops E=q5 ops (Nat.lor E (dD i))+1:=by
 unfold q5;obtain⟨l1,l2,hl⟩:=XF (cj.2 hi);have bo:=M7 (n:=ops.size);rw[hl,Ae] at bo;obtain⟨_,h2,h3⟩:=bo;rw[ng] at h2;have g1:∀j,j∈l1→j≠i:=fun j hj=>h3 j hj i (dv ..);have g2:∀j,j∈l2→j≠i:=fun j hj e=>h2.1 (e▸hj)
 have c:∀l:List Nat,(∀j,j∈l→j≠i)→(l.filter fun j=> !aw (Nat.lor E (dD i)) j)=l.filter fun j=> !aw E j:=by
  intro l hl;apply List.filter_congr;intro j hj;rw[iI,ew (fun e=>hl j hj e.symm),wW]
 have cZ:aw (Nat.lor E (dD i)) i=true:=by rw[iI,gV,m8]
 rw[hl];simp only[M2,w8,c l1 g1,c l2 g2,hb,cZ,re,Bool.not_false,if_true,uB,if_false,kD,ox];omega
theorem aqu {rd:Option Nat}(hC:CtxOK C σ0)(bl:dC C)(hΦ:dc C Φ)(hY:oG C Φ w0 σ0){a0:Act}(PR:a0.tmps.size=n){ops:Array Oper}(aH:qV n ops=true)(eY:xN ops=true){m:Nat}(hm:m≤ops.size){q:List (Sh×List PI)}(hq:xJ C S ops m=some q)
 (pk:Ci ops (pz (q.map (·.2)) m) (dw ops ops.size) m=true) (ym:∀i,m≤i→i<ops.size→∀j,j<i→aw ((dw ops ops.size).getD i 0) j=true) {Q:Exit→Act→World→Prop} {ρ':Env}
 (hK:∀listed a' w',listed.size=ops.size→(∀i,listed.getD i false=decide (i<m))→SameBut (qg ops) a0 a'→Good C w0 σ0 (S.withR (fi ops (q.map (·.1)) (List.range m) S.r)) ρ' (la ops (List.range m)) a' w'→wpAnyIn (FR rd) 0 C.P .any ops Q (ops.size-m) listed a' w'):
 ∀(k E:Nat) (listed:Array Bool) (ρ:Env) (a:Act) (w:World),q5 ops E=k→(∀j,aw E j=true→j<m)→(∀j,j<ops.size→aw E j=true→∀m,aw ((dw ops ops.size).getD j 0) m=true→aw E m=true)→listed.size=ops.size→(∀i,listed.getD i false=aw E i)→SameBut (qg ops) a0 a→
  Good C w0 σ0 (S.withR (fi ops (q.map (·.1)) ((List.range m).filter (aw E)) S.r)) ρ (uh ops E) a w→PI.runs Φ (eh (q.map (·.2)) (List.range m) E) ρ=some ρ'→wpAnyIn (FR rd) 0 C.P .any ops Q k listed a w:=by
 have Ib:=aH;simp only[qV,ar] at aH;have bo:=mQ aH.1;have P5:=azP bo;obtain⟨hlen,aX⟩:=OY hq;unfold Ci at pk;rw[ar] at pk
 have Cs:∀i,i<ops.size→∀o,ops[i]?=some o→(o.after.toList.all fun e=> !Region.binds .any e||Nat.blt e.on i)=true:=by
  intro i hi o ho;have:=bK.1 pk.2 i (cj.2 hi);unfold Hl at this;rw[ho] at this;exact this
 have avl:∀i,i<m→∀o,ops[i]?=some o→((pz (q.map (·.2)) m).getD i []).all (aw ((dw ops ops.size).getD i 0))=true∧
  ∀t,t∈ahk ops o→∀j,j<ops.size→(ops[j]?).bind (·.dst)=some t→(j<i∧aw ((dw ops ops.size).getD i 0) j=true)∨aw ((dw ops ops.size).getD j 0) i=true:=by
  intro i hi o ho;have:=bK.1 pk.1 i (cj.2 hi);unfold aae at this;rw[ho] at this;simp only[ar] at this;refine⟨this.1.1,fun t ht j hj hd=>?_⟩;have:=bK.1 (bK.1 this.2 t ht) j (cj.2 hj);rw[hd] at this;simp only[gV,re,pY,gA,ar,ix] at this;exact this
 have X8:∀(k E:Nat) (listed:Array Bool) (ρ:Env) (a:Act) (w:World),(∀i,i<m→aw E i=true)→q5 ops E=k→(∀j,aw E j=true→j<m)→listed.size=ops.size→(∀i,listed.getD i false=aw E i)→SameBut (qg ops) a0 a→
  Good C w0 σ0 (S.withR (fi ops (q.map (·.1)) ((List.range m).filter (aw E)) S.r)) ρ (uh ops E) a w→PI.runs Φ (eh (q.map (·.2)) (List.range m) E) ρ=some ρ'→wpAnyIn (FR rd) 0 C.P .any ops Q k listed a w:=by
  intro k E listed ρ a w jK hk vu aS hl hn hg ak;have hb:∀i,aw E i=decide (i<m):=by
   intro i;by_cases h:i<m
   ·rw[jK i h,decide_eq_true h]
   ·rw[decide_eq_false h];cases hb:aw E i with
    |false=>rfl
    |true=>exact absurd (vu i hb) h
  have Ps:eh (q.map (·.2)) (List.range m) E=[]:=by
   unfold eh;rw[ajs];intro i hi;rw[jK i (cj.1 hi)];rfl
  rw[Ps] at ak;simp only[PI.runs,bf] at ak;subst ak;have at5:q5 ops E=ops.size-m:=by
   unfold q5
   have key:∀N,m≤N→((List.range N).filter fun i=> !aw E i).length=N-m:=by
        intro N
        induction N with
        |zero=>intro _;simp
        |succ N ih=>
         intro hN;rw[List.range_succ,M2,kD];by_cases h:m≤N
         ·rw[ih h];simp[hb N,Nat.not_lt.2 h];omega
         ·have:m=N+1:=by omega
          have e:(List.range N).filter (fun i=> !aw E i)=[]:=by
           rw[List.filter_eq_nil_iff];intro i hi;rw[jK i (by have:=cj.1 hi;omega)];simp
          have hN':aw E N=true:=jK N (by omega);rw[e];simp[hN'];omega
   exact key _ hm
  have ef:(List.range m).filter (aw E)=List.range m:=List.filter_eq_self.2 fun i hi=>jK i (cj.1 hi);rw[ef] at hg;have pq:uh ops E=la ops (List.range m):=by
   funext t;apply propext;constructor
   ·rintro⟨i,o,h1,h2,h3⟩;exact⟨i,o,cj.2 (vu i h1),h2,h3⟩
   ·rintro⟨i,o,h1,h2,h3⟩;exact⟨i,o,jK i (cj.1 h1),h2,h3⟩
  rw[pq] at hg;rw[←hk,at5];exact hK listed a w aS (fun i=>by rw[hl i,hb i]) hn hg
 intro k
 induction k with
 |zero=>
  intro E listed ρ a w hk vu HH aS hl hn hg ak;refine X8 0 E listed ρ a w (fun i hi=>?_) hk vu aS hl hn hg ak;cases hb:aw E i with
  |true=>rfl
  |false=>
   have:i∈(List.range ops.size).filter fun i=> !aw E i:=dm.2 ⟨cj.2 (by omega),by rw[hb];rfl⟩;unfold q5 at hk;rw[List.length_eq_zero_iff.1 hk] at this;cases this
 |succ k ih=>
  intro E listed ρ a w hk vu HH aS hl hn hg ak;by_cases jK:∀i,i<m→aw E i=true
  ·exact X8 (k+1) E listed ρ a w jK hk vu aS hl hn hg ak
  refine⟨fun he=>?_,fun i hi=>?_⟩
  ·
   obtain⟨i,hi,H4⟩:∃i,(i<m∧aw E i=false)∧∀j,j<i→aw E j=true:=by
        have hex:∃i,i<m∧aw E i=false:=by
         refine z7 fun dY=>jK fun i hi=>?_;cases hb:aw E i with
         |true=>rfl
         |false=>exact absurd ⟨i,hi,hb⟩ dY
        obtain⟨i,hi⟩:=hex
        induction i using Nat.strongRecOn with
        |ind i lP=>
         by_cases hh:∃j,j<i∧aw E j=false
         ·obtain⟨j,hj,hb⟩:=hh;exact lP j hj ⟨by omega,hb⟩
         ·refine⟨i,hi,fun j hj=>?_⟩;cases hb:aw E j with
          |true=>rfl
          |false=>exact absurd ⟨j,hj,hb⟩ hh
   have nB:i<ops.size:=by omega
   have ho:ops[i]?=some ops[i]:=fm nB;have cU:i∈kY ops E:=by
        unfold kY;simp only[dm,cj,ar,iu,ho];refine⟨nB,hi.2,?_⟩;rw[bK];intro e jo;have:=bK.1 (Cs i nB _ ho) e jo;cases hb:Region.binds .any e with
        |false=>rfl
        |true=>
         rw[hb] at this;simp only[re,pY,ix] at this;rw[H4 _ this];rfl
   rw[←ahl aS hl,he] at cU;cases cU
  ·rw[ahl aS hl] at hi;unfold kY at hi;simp only[dm,cj,ar,iu] at hi;obtain⟨bI,da,tg⟩:=hi;have ho0:ops[i]?=some ops[i]:=fm bI;generalize ops[i]=o at ho0;have ho:=ho0;rw[ho] at tg;simp only at tg;have o2:=Cs i bI o ho;have xW:∀m,aw ((dw ops ops.size).getD i 0) m=true→aw E m=true:=by
        intro m hm;obtain⟨e,hG,jn,Pr⟩:=Ha bI ho o2 hm;have hE:aw E e.on=true:=by
         have:=bK.1 tg e hG
         rwa [jn,re,pY] at this
        rcases Pr with rfl|Pr
        ·exact hE
        ·have pj:e.on<i:=by
          have:=bK.1 o2 e hG;rw[jn] at this;simpa [ix] using this
         exact HH e.on (by omega) hE m Pr
   have j9:i<m:=by
        refine z7 fun dY=>jK fun j hj=>?_;exact xW j (ym i (by omega) bI j (by omega))
   obtain⟨o',dP,jL⟩:=aX i j9;rw[ho] at dP;cases dP;obtain⟨o1,o3⟩:=avl i j9 o ho;have dq:((pz (q.map (·.2)) m).getD i []).all (aw E)=true:=by
        rw[bK] at o1 ⊢;exact fun m hm=>xW m (o1 m hm)
   have aua:sX C (S.withR (fi ops (q.map (·.1)) ((List.range m).filter (aw E)) S.r)) ops o=some ((q.map (·.1)).getD i .none,(q.map (·.2)).getD i []):=by
        rw[←jL];refine aqs (S:=S.withR (fi ops (q.map (·.1)) (List.range i) S.r)) fun t ht=>?_;refine ahQ P5 (fun j hj=>?_) (fun _ _ _=>rfl);have fL:j<ops.size:=by
         rw[az] at hj;obtain⟨oj,h1,_⟩:=hj;exact(fT.1 h1).1
        rw[dm,cj,cj];rcases o3 t ht j fL hj with⟨h1,h2⟩|h1
        ·exact⟨fun _=>h1,fun _=>⟨by omega,xW j h2⟩⟩
        ·constructor
         ·rintro⟨_,oX⟩;have:=HH j fL oX i h1;rw[da] at this;cases this
         ·intro gH;exfalso;have key:∀m j,j<ops.size→aw ((dw ops ops.size).getD j 0) m=true→m<j:=by
           intro m j
           induction j using Nat.strongRecOn with
           |ind j lP=>
            intro hj hm;have qx:ops[j]?=some ops[j]:=fm hj;have p2:=Cs j hj _ qx;obtain⟨e,e1,e2,e3⟩:=Ha hj qx p2 hm;have pj:e.on<j:=by
                have:=bK.1 p2 e e1;rw[e2] at this;simpa [ix] using this
            rcases e3 with rfl|e3
            ·exact pj
            ·have:=lP e.on pj (by omega) e3;omega
          have:=key i j fL h1;omega
   have hcp:=aqr aua;rw[ahs j9 da dq,az] at ak;obtain⟨ρ1,hρ1,hρ2⟩:=ak;have vi:∀d,o.dst=some d→¬uh ops E d∧d<a.tmps.size:=by
        intro d hd;refine⟨fun⟨i',o',cZ,dP,fq⟩=>?_,?_⟩
        ·have aJ:i'≠i:=fun e=>by subst e;rw[da] at cZ;cases cZ
         exact uT.dst_once bo dP ho fq hd aJ
        ·have:=bK.1 aH.2 o (by simpa using gz ho);simp only[hd,ar] at this;rw[hn.size,PR];simpa [ix] using this.2
   have jq:nL o.op=true:=by
        have:=bK.1 aH.2 o (by simpa using gz ho);simp only[ar] at this;exact this.1
   have hj:∀j want t,o.guard=some (j,want)→(ops[j]?).bind (·.dst)=some t→uh ops E t:=by
        intro j want t jM ht;rw[az] at ht;obtain⟨oj,h1,h2⟩:=ht;have tl:=bK.1 eY o (by simpa using gz ho);simp only[jM] at tl;obtain⟨e,hG,jn⟩:=uG.1 tl;simp only[ar] at jn;have h3:=bK.1 tg e hG;rw[jn.1] at h3;simp only[re,pY] at h3;exact⟨j,oj,by rw[←cG jn.2];exact h3,h1,h2⟩
   have at4:∀j,j<ops.size→aw (Nat.lor E (dD i)) j=true→∀m,aw ((dw ops ops.size).getD j 0) m=true→aw (Nat.lor E (dD i)) m=true:=by
        intro j hj oX m hm;rw[iI,gA] at oX;rw[iI,gA];rcases oX with oX|oX
        ·exact .inl (HH j hj oX m hm)
        ·rw[←cG oX] at hm;exact .inl (xW m hm)
   have main:=Hb (rd:=rd) (K:=wpAnyIn (FR rd) 0 C.P .any ops Q k (listed.setIfInBounds i true)) (Q:=Q) hg hC bl hΦ hY jq vi hj hcp hρ1 (fun a' w' fu qD=>by
        have hA:(fun u=>uh ops E u∨o.dst=some u)=uh ops (Nat.lor E (dD i)):=by
         funext u;apply propext;constructor
         ·rintro(⟨i',o',h1,h2,h3⟩|h1)
          ·exact⟨i',o',by rw[iI,h1,wY],h2,h3⟩
          ·exact⟨i,o,by rw[iI,gV,m8],ho,h1⟩
         ·rintro⟨i',o',h1,h2,h3⟩;rw[iI,gA] at h1;rcases h1 with h1|h1
          ·exact .inl ⟨i',o',h1,h2,h3⟩
          ·rw[←cG h1,ho] at h2;cases h2;exact .inr h3
        rw[hA] at fu;have hSt:mZ (S.withR (fi ops (q.map (·.1)) ((List.range m).filter (aw E)) S.r)) o ((q.map (·.1)).getD i .none)=S.withR (fi ops (q.map (·.1)) ((List.range m).filter (aw (Nat.lor E (dD i)))) S.r):=by
         have auu:∀t,(mZ (S.withR (fi ops (q.map (·.1)) ((List.range m).filter (aw E)) S.r)) o ((q.map (·.1)).getD i .none)).r t=fi ops (q.map (·.1)) ((List.range m).filter (aw (Nat.lor E (dD i)))) S.r t:=by
          intro t;by_cases HL:o.dst=some t
          ·have hb:(ops[i]?).bind (·.dst)=some t:=by rw[ho];exact HL
           rw[Mt P5 hb (dm.2 ⟨cj.2 j9,by rw[iI,gV,m8]⟩)];unfold mZ;rw[HL];simp[St.setR,aW]
          ·have e1:(mZ (S.withR (fi ops (q.map (·.1)) ((List.range m).filter (aw E)) S.r)) o ((q.map (·.1)).getD i .none)).r t=fi ops (q.map (·.1)) ((List.range m).filter (aw E)) S.r t:=by
            unfold mZ;split
            ·rename_i d hd;exact bA _ _ (fun e=>HL (by rw[hd,e]))
            ·rfl
           rw[e1];refine ahQ P5 (fun j hj=>?_) (fun _ _ _=>rfl);have gH:¬i=j:=fun e=>by subst e;rw[ho] at hj;exact HL hj
           rw[dm,dm,iI,ew gH,wW]
         have:∀(X Y:St),X.o=Y.o→X.ver=Y.ver→(∀t,X.r t=Y.r t)→X=Y:=by
          intro X Y h1 h2 h3;cases X;cases Y;simp only at h1 h2 h3;subst h1 h2
          congr 1
          exact funext h3
         refine this _ _ ?_ ?_ auu
         ·unfold mZ;split<;>rfl
         ·unfold mZ;split<;>rfl
        rw[hSt] at fu;refine ih _ _ ρ1 a' w' (by have:=aEU bI da;omega) (fun j hj=>by rw[iI,gA] at hj;rcases hj with hj|hj;exact vu j hj;rw[←cG hj];exact j9) at4 (by simpa using aS) (fun j=>?_) (hn.trans (qD.mono fun t e=>⟨o,by simpa using gz ho,e⟩)) fu hρ2;rw[iI];simp only[dL,uA];by_cases cN:i=j
        ·subst cN;simp[aS,bI]
        ·rw[if_neg cN,ew cN,wW,←hl j];simp only[dL])
   simp only[wpOpIn,ho];split
   ·rename_i hw;rw[if_pos hw] at main;exact main
   ·rename_i hw;rw[if_neg hw] at main;exact⟨fun _ _=>trivial,main⟩
theorem aCq {rd:Option Nat}(hC:CtxOK C σ0)(bl:dC C)(hΦ:dc C Φ)(hY:oG C Φ w0 σ0){ops:Array Oper}(aH:qV n ops=true)(eY:xN ops=true)(Cs:(List.range ops.size).all (Hl ops)=true){m:Nat}
 (ym:∀i,m≤i→i<ops.size→∀j,j<i→aw ((dw ops ops.size).getD i 0) j=true) {Q:Exit→Act→World→Prop} {ρ':Env}:
 ∀(k i:Nat) {S:St} {ρ:Env} {a:Act} {w:World} {r:St×List PI} (listed:Array Bool),i+k=ops.size→m≤i→listed.size=ops.size→(∀j,listed.getD j false=decide (j<i))→a.tmps.size=n→
  Good C w0 σ0 S ρ (la ops (List.range i)) a w→nq C ops (List.range' i k) S=some r→PI.runs Φ r.2 ρ=some ρ'→
  (∀a' w',SameBut (qg ops) a a'→Good C w0 σ0 r.1 ρ' (la ops (List.range ops.size)) a' w'→Q .normal a' w')→wpAnyIn (FR rd) 0 C.P .any ops Q k listed a w:=by
 have Ib:=aH;simp only[qV,ar] at aH;have bo:=mQ aH.1
 have Np:∀i,i<ops.size→∀o,ops[i]?=some o→(o.after.toList.all fun e=> !Region.binds .any e||Nat.blt e.on i)=true:=by
  intro i hi o ho;have:=bK.1 Cs i (cj.2 hi);unfold Hl at this;rw[ho] at this;exact this
 have mem:∀(listed:Array Bool) (i j:Nat),listed.size=ops.size→(∀j,listed.getD j false=decide (j<i))→(j∈Region.ready .any ops listed↔(j<ops.size∧¬j<i∧∀o,ops[j]?=some o→(o.after.toList.all fun e=> !Region.binds .any e||decide (e.on<i))=true)):=by
  intro listed i j aS hl;unfold Region.ready;simp only[dm,cj];refine and_congr_right fun hj=>?_;have h1:listed.getD j true=decide (j<i):=by
   rw[←hl j];simp only[dL];rw[fm (by omega)];rfl
  have h2:ops[j]?=some ops[j]:=fm hj;rw[h1,h2];simp only[jF,jE,←Xs,hl,ar,iu,decide_eq_false_iff_not,bf,forall_eq']
 intro k
 induction k with
 |zero=>
  intro i S ρ a w r listed hik hmi aS hl hn hg hr ak hQ;simp only[List.range'_zero,nq,bf] at hr;subst hr;rw[mX ak] at hQ;refine⟨?_,hQ a w (.refl _ _) ?_⟩
  ·rw[XH];intro j hj;rw[mem listed i j aS hl] at hj;exact hj.2.1 (by omega)
  ·have:i=ops.size:=by omega
   rw[←this];exact hg
 |succ k ih=>
  intro i S ρ a w r listed hik hmi aS hl hn hg hr ak hQ;have bI:i<ops.size:=by omega
  have ho:ops[i]?=some ops[i]:=fm bI;generalize ops[i]=o at ho;refine⟨fun he=>?_,fun i' cZ=>?_⟩
  ·have:i∈Region.ready .any ops listed:=by
        rw[mem listed i i aS hl];refine⟨bI,by omega,fun o' dP=>?_⟩;rw[bK];intro e jo;have:=bK.1 (Np i bI o' dP) e jo;cases hb:Region.binds .any e with
        |false=>rfl
        |true=>
         rw[hb] at this;simp only[re,pY,ix] at this;simpa using this
   rw[he] at this;cases this
  ·rw[mem listed i i' aS hl] at cZ;obtain⟨h1,h2,h3⟩:=cZ;obtain rfl:i'=i:=by
        refine z7 fun aJ=>?_;have dP:ops[i']?=some ops[i']:=fm h1;have xW:=ym i' (by omega) h1 i (by omega);have ah:∀m j,j<ops.size→aw ((dw ops ops.size).getD j 0) m=true→m<j:=by
         intro m j
         induction j using Nat.strongRecOn with
         |ind j lP=>
          intro hj hm;have qx:ops[j]?=some ops[j]:=fm hj;have p2:=Np j hj _ qx;obtain⟨e,e1,e2,e3⟩:=Ha hj qx p2 hm;have pj:e.on<j:=by
           have:=bK.1 p2 e e1;rw[e2] at this;simpa [ix] using this
          rcases e3 with rfl|e3
          ·exact pj
          ·have:=lP e.on pj (by omega) e3;omega
        obtain⟨e,e1,e2,e3⟩:=Ha h1 dP (Np i' h1 _ dP) xW;have h4:=bK.1 (h3 _ dP) e e1;rw[e2] at h4;simp only[re,pY,decide_eq_true_eq] at h4;rcases e3 with e3|e3
        ·omega
        ·have:=ah i e.on (by omega) e3;omega
   rw[Fz] at hr;simp only[nq,ho] at hr;simp only[az,aG] at hr;obtain⟨r1,hZ,q,hq,rfl⟩:=hr;simp only[oa,az] at ak;obtain⟨ρ1,hρ1,hρ2⟩:=ak;have vi:∀d,o.dst=some d→¬la ops (List.range i') d∧d<a.tmps.size:=by
        intro d hd;refine⟨fun⟨i2,o2,vk,ez,cT⟩=>?_,?_⟩
        ·have aJ:i2≠i':=by have:=cj.1 vk;omega
         exact uT.dst_once bo ez ho cT hd aJ
        ·have:=bK.1 aH.2 o (by simpa using gz ho);simp only[hd,ar] at this;rw[hn];simpa [ix] using this.2
   have jq:nL o.op=true:=by
        have:=bK.1 aH.2 o (by simpa using gz ho);simp only[ar] at this;exact this.1
   have hj:∀j want t,o.guard=some (j,want)→(ops[j]?).bind (·.dst)=some t→la ops (List.range i') t:=by
        intro j want t jM ht;rw[az] at ht;obtain⟨oj,h1,h2⟩:=ht;have tl:=bK.1 eY o (by simpa using gz ho);simp only[jM] at tl;obtain⟨e,hG,jn⟩:=uG.1 tl;simp only[ar] at jn;have h4:=bK.1 (h3 o ho) e hG;rw[jn.1] at h4;simp only[re,pY,decide_eq_true_eq] at h4;exact⟨j,oj,cj.2 (by rw[←cG jn.2];exact h4),h1,h2⟩
   have main:=Hb (rd:=rd) (K:=wpAnyIn (FR rd) 0 C.P .any ops Q k (listed.setIfInBounds i' true)) (Q:=Q) hg hC bl hΦ hY jq vi hj hZ hρ1 (fun a' w' fu ec=>by
        have:(fun u=>la ops (List.range i') u∨o.dst=some u)=la ops (List.range (i'+1)):=by
         funext u;apply propext;constructor
         ·rintro(⟨i2,o2,h1,h2,h3⟩|h1)
          ·exact⟨i2,o2,cj.2 (by have:=cj.1 h1;omega),h2,h3⟩
          ·exact⟨i',o,cj.2 (by omega),ho,h1⟩
         ·rintro⟨i2,o2,g1,g2,g3⟩;by_cases e:i2=i'
          ·rw[e,ho] at g2;cases g2;exact .inr g3
          ·exact .inl ⟨i2,o2,cj.2 (by have:=cj.1 g1;omega),g2,g3⟩
        rw[this] at fu;refine ih (i'+1) _ (by omega) (by omega) (by simpa using aS) (fun j=>?_) (ec.size.trans hn) fu hq hρ2 (fun a2 w2 s2 g2=>hQ a2 w2 ((ec.mono fun t e=>⟨o,by simpa using gz ho,e⟩).trans s2) g2);simp only[dL,uA];by_cases cN:i'=j
        ·subst cN;simp[aS,bI]
        ·rw[if_neg cN];have:=hl j;simp only[dL] at this;rw[this];by_cases ah:j<i'
         ·rw[decide_eq_true ah,decide_eq_true (by omega:j<i'+1)]
         ·rw[decide_eq_false ah,decide_eq_false (by omega:¬j<i'+1)])
   simp only[wpOpIn,ho];split
   ·rename_i hw;rw[if_pos hw] at main;exact main
   ·rename_i hw;rw[if_neg hw] at main;exact⟨fun _ _=>trivial,main⟩
end
def Ml (C:Ctx)(n:Nat)(ids:List Nat)(ops:Array Oper)(draw:Bool)(S:Snap):Option (Snap×List PI):=
 bif qV n ops then
    bif draw then
     bif xN ops&&R1 ops&&C.P.follows .mixedOrders then
        match aaf C ops (S.st ids) with
        |some r=>some (⟨uj (ff r.1) r.1 S.rs (ops.toList.filterMap (·.dst)),ids.map fun j=>gN r.1 (r.1.o j)⟩,r.2)
        |none=>
        (eN C ops (List.range ops.size) (S.st ids)).bind fun X=>Ct X fun X=>Ct (pz X ops.size) fun nc=>
         (Snap.hard ⟨S.rs.map fun s=>kh (S.st ids) (cr s),ids.map fun j=>gN (S.st ids) ((S.st ids).o j)⟩ fun T0=>E3 ops (ri C.P ops) (SJ C ops n ids X nc) ops.size [(0,T0)]).map fun T=>(⟨T.rs.map (ff (T.stO ids)),ids.map fun j=>gN (T.stO ids) ((T.stO ids).o j)⟩,X.flatten)
     else none
    else bif aar ops then(nq C ops (List.range ops.size) (S.st ids)).map fun r=>(⟨uj (ff r.1) r.1 S.rs (ops.toList.filterMap (·.dst)),ids.map fun j=>gN r.1 (r.1.o j)⟩,r.2) else none
 else none
def Mk (C:Ctx)(n:Nat)(ids:List Nat)(ops:Array Oper)(draw:Bool)(S:Snap):Option (Snap×List PI):=
 (Ml C n ids ops draw S).bind fun r=>r.1.hard fun T=>some (T,r.2)
theorem aBG (C:Ctx)(n:Nat)(ids:List Nat)(ops:Array Oper)(draw:Bool)(S:Snap):Mk C n ids ops draw S=Ml C n ids ops draw S:=by
 unfold Mk;cases Ml C n ids ops draw S with
 |none=>rfl
 |some r=>rw[kF,Snap.hard_eq]
def wJ (ops:Array Oper)(E:Nat):Nat→Prop:=fun t=>∃i o,aw E i=true∧ops[i]?=some o∧o.dst=some t
section
variable {C:Ctx} {S:St} {ρ:Env} {σ:Im} {own:Nat→Option Nat} {hv:Nat→Value} {w0:World} {σ0:Base} {A:Nat→Prop} {a:Act} {w:World} {n:Nat} {ids:List Nat} {Φ:aV}
theorem Mi {ops:Array Oper}{listed:Array Bool}{E:Nat}(aS:listed.size=ops.size)(hl:∀i,listed.getD i false=aw E i)(i:Nat):i∈Region.ready .any ops listed↔i∈kY ops E:=by
 unfold Region.ready kY;simp only[dm,cj];refine and_congr_right fun hi=>?_;have h1:listed.getD i true=aw E i:=by
  rw[←hl i];simp only[dL];rw[fm (by omega)];rfl
 have h2:ops[i]?=some ops[i]:=fm hi;rw[h1,h2];simp only[jF,jE,←Xs,hl]
theorem aB4 {rd:Option Nat}(hC:CtxOK C σ0)(bl:dC C)(hΦ:dc C Φ)(hY:oG C Φ w0 σ0){a0:Act}(PR:a0.tmps.size=n){ops:Array Oper}(aH:qV n ops=true)(eY:xN ops=true){X:List (List PI)}{Q:Exit→Act→World→Prop}{ρ':Env}(yj:R1 ops=true)(hQp:∀c a w,¬Q (.panic c) a w):
 ∀(k:Nat) {L:List (Nat×Snap)} {T:Snap},E3 ops (ri C.P ops) (SJ C ops n ids X (pz X ops.size)) k L=some T→
  (∀a' w',SameBut (qg ops) a0 a'→Good C w0 σ0 (T.stO ids) ρ' (fun t=>∃E,wJ ops E t) a' w'→Q .normal a' w')→
  ∀(E:Nat) (U:Snap),(E,U)∈L→∀(listed:Array Bool) (ρ:Env) (a:Act) (w:World),listed.size=ops.size→(∀i,listed.getD i false=aw E i)→SameBut (qg ops) a0 a→
   Good C w0 σ0 (U.stO ids) ρ (wJ ops E) a w→PI.runs Φ (eh X (List.range ops.size) E) ρ=some ρ'→wpAnyIn (FR rd) 0 C.P .any ops Q k listed a w:=by
 simp only[qV,ar] at aH;have bo:=mQ aH.1;intro k
 induction k with
 |zero=>
  intro L T hs hQ E U hm listed ρ a w aS hl hn hg ak;simp only[E3] at hs;split at hs
  case h_2=>cases hs
  rename_i x;cases aX:(List.range ops.size).all (aw x.1)<;>simp only[aX,cond_true,cond_false] at hs
  ·cases hs
  cases hs;simp only[oz] at hm;subst hm;simp only at aX hg hQ ak hl;have jK:=bK.1 aX;have Ps:eh X (List.range ops.size) E=[]:=by
   unfold eh;rw[ajs];intro i hi;rw[jK i hi];rfl
  rw[Ps] at ak;simp only[PI.runs,bf] at ak;subst ak;refine⟨?_,hQ a w hn ?_⟩
  ·rw[XH];intro i hi;rw[Mi aS hl] at hi;unfold kY at hi;simp only[dm,ar,iu] at hi;rw[jK i hi.1] at hi;cases hi.2.1
  ·obtain⟨σ,own,hv,h⟩:=hg;exact⟨σ,own,hv,h.defers,h.ok,h.le,h.old,h.newc,h.newm,h.below,h.bw,h.owns,h.regs,h.objs,fun t gs s e=>⟨fun g hm=>⟨E,(h.opts t gs s e).1 g hm⟩,(h.opts t gs s e).2⟩,h.frame⟩
 |succ k ih=>
  intro L T hs hQ E U hm listed ρ a w aS hl hn hg ak;simp only[E3,az] at hs;obtain⟨L',hL,hs⟩:=hs;obtain⟨_,cU⟩:=acg hL;obtain⟨aJ,Qn⟩:=cU _ hm;have au8:kY ops E≠[]:=fun e=>aJ (by unfold oJ;rw[e];rfl)
  have cl:∀i,i∈oJ ops (ri C.P ops) E→i∈kY ops E:=fun i hi=>by
   unfold oJ at hi;split at hi
   ·rename_i i' hp;rw[oz.1 hi];exact(MB hp).1
   ·exact hi
  have step:∀i,i∈oJ ops (ri C.P ops) E→∀Q':Exit→Act→World→Prop,wpOpIn (FR rd) 0 C.P ops Q' i (wpAnyIn (FR rd) 0 C.P .any ops Q k (listed.setIfInBounds i true)) a w:=by
   intro i hi Q';obtain⟨y,hy,hyL⟩:=Qn i hi;have hi:=cl i hi;unfold kY at hi;simp only[dm,cj,ar,iu] at hi;obtain⟨bI,da,tg⟩:=hi;simp only[SJ] at hy;split at hy
   case h_2=>cases hy
   rename_i o ho;simp only[az] at hy;obtain⟨r,hr,hy⟩:=hy;cases hc:(PI.beqs r.2 (X.getD i [])&&((pz X ops.size).getD i []).all (aw E))<;>simp only[hc,cond_true,cond_false] at hy
   ·cases hy
   cases hy;simp only[ar] at hc;have hX:=PI.beqs_eq _ _ hc.1;rw[ahs bI da hc.2,az] at ak;obtain⟨ρ1,hρ1,hρ2⟩:=ak;rw[←hX] at hρ1;rw[ho] at tg;simp only at tg;have vi:∀d,o.dst=some d→¬wJ ops E d∧d<a.tmps.size:=by
        intro d hd;refine⟨fun⟨i',o',cZ,dP,fq⟩=>?_,?_⟩
        ·have aJ:i'≠i:=fun e=>by subst e;rw[da] at cZ;cases cZ
         exact uT.dst_once bo dP ho fq hd aJ
        ·have:=bK.1 aH.2 o (by simpa using gz ho);simp only[hd,ar] at this;rw[hn.size,PR];simpa [ix] using this.2
   have jq:nL o.op=true:=by
        have:=bK.1 aH.2 o (by simpa using gz ho);simp only[ar] at this;exact this.1
   have hj:∀j want t,o.guard=some (j,want)→(ops[j]?).bind (·.dst)=some t→wJ ops E t:=by
        intro j want t jM ht;rw[az] at ht;obtain⟨oj,h1,h2⟩:=ht;have tl:=bK.1 eY o (by simpa using gz ho);simp only[jM] at tl;obtain⟨e,hG,jn⟩:=uG.1 tl;simp only[ar] at jn;have h3:=bK.1 tg e hG;rw[jn.1] at h3;simp only[re,pY] at h3;exact⟨j,oj,by rw[←cG jn.2];exact h3,h1,h2⟩
   have main:=Hb (rd:=rd) (K:=wpAnyIn (FR rd) 0 C.P .any ops Q k (listed.setIfInBounds i true)) (Q:=Q') hg hC bl hΦ hY jq vi hj hr hρ1 (fun a' w' fu qD=>by
        have hA:(fun u=>wJ ops E u∨o.dst=some u)=wJ ops (Nat.lor E (dD i)):=by
         funext u;apply propext;constructor
         ·rintro(⟨i',o',h1,h2,h3⟩|h1)
          ·exact⟨i',o',by rw[iI,h1,wY],h2,h3⟩
          ·exact⟨i,o,by rw[iI,gV,m8],ho,h1⟩
         ·rintro⟨i',o',h1,h2,h3⟩;rw[iI,gA] at h1;rcases h1 with h1|h1
          ·exact .inl ⟨i',o',h1,h2,h3⟩
          ·rw[←cG h1,ho] at h2;cases h2;exact .inr h3
        rw[hA] at fu
        refine ih hs hQ _ _ hyL _ ρ1 a' w' (by simpa using aS) (fun j=>?_) (hn.trans (qD.mono fun t e=>⟨o,by simpa using gz ho,e⟩)) (by
         have:=fu.snapO U.rs.length ids
         rw[show r.1.snapO U.rs.length ids=⟨uj (kh r.1) r.1 U.rs o.dst.toList,ids.map fun j=>gN r.1 (r.1.o j)⟩ from by
          unfold St.snapO;rw[E9 fun t ht=>?_];rw[ZB hr t (fun e=>ht (by rw[e];simp))];rfl] at this
         exact this) hρ2
        rw[iI];simp only[dL,uA];by_cases cN:i=j
        ·subst cN;simp[aS,bI]
        ·rw[if_neg cN,ew cN,wW,←hl j];simp only[dL])
   simp only[wpOpIn,ho];split
   ·rename_i hw;rw[if_pos hw] at main;exact main
   ·rename_i hw;rw[if_neg hw] at main;exact⟨fun _ _=>trivial,main⟩
  cases Qa:zH (ri C.P ops) E (kY ops E) with
  |none=>
   have lH:oJ ops (ri C.P ops) E=kY ops E:=by unfold oJ;rw[Qa]
   refine⟨fun he=>?_,fun i hi=>step i (by rw[lH];exact(Mi aS hl i).1 hi) Q⟩;exfalso;refine au8 ?_;rw[XH];intro i hi;rw[←Mi aS hl,he] at hi;cases hi
  |some i=>
   have lH:oJ ops (ri C.P ops) E=[i]:=by unfold oJ;rw[Qa]
   obtain⟨hir,b,hb,atY⟩:=MB Qa;obtain⟨oi,hoi,Qc,Pc⟩:=amb hb;obtain⟨v,hv,hK⟩:=aAV hoi Qc (step i (by rw[lH];simp) _);refine aFl (fun j o ho=>?_) hoi (fun j o cs b' ho e=>?_) (fun c a' w' h=>(hQp _ _ _ h).elim) k listed a w (fun j oj hj gH kN dY=>Pc j oj hj gH (fun HV=>?_) dY) ((Mi aS hl i).2 hir) hv hK
   ·have:=bK.1 aH.2 o (by simpa using gz ho);simp only[ar] at this;exact this.1
   ·have:=bK.1 yj o (by simpa using gz ho);rw[e] at this;cases this
   ·have h1:=bK.1 atY j HV;have h2:=hl j;rw[h1] at h2;simp only[dL] at h2 kN;cases yb:listed[j]? with
    |none=>rw[yb] at h2;cases h2
    |some x=>
     rw[yb] at h2 kN;simp only[jE] at h2 kN;rw[h2] at kN;cases kN
theorem ahK {ops:Array Oper}:∀{l:List Nat} {S:St} {X:List (List PI)},eN C ops l S=some X→X.length=l.length
 |[],S,X,h=>by simp only[eN,bf] at h;subst h;rfl
 |i::l,S,X,h=>by
  simp only[eN] at h;split at h
  case h_2=>cases h
  simp only[az,aG] at h;obtain⟨r,_,q,hq,rfl⟩:=h;simp[ahK hq]
theorem aht (X:List (List PI)):eh X (List.range X.length) 0=X.flatten:=by
 have h0:∀i,aw 0 i=false:=fun i=>by rw[rl];simp
 have key:∀(Y Z:List (List PI)),eh (Y++Z) (List.range' Y.length Z.length) 0=Z.flatten:=by
  intro Y Z
  induction Z generalizing Y with
  |nil=>rfl
  |cons z Z ih=>
   have:=ih (Y++[z]);simp only[m9,List.singleton_append,kD,ox,xb,lq] at this;rw[ox,Fz];have e:eh (Y++z::Z) (Y.length::List.range' (Y.length+1) Z.length) 0=(Y++z::Z).getD Y.length []++eh (Y++z::Z) (List.range' (Y.length+1) Z.length) 0:=by
        unfold eh;rw[uI,h0];rfl
   rw[e,this,XM]
   congr 1
   simp[aT]
 have:=key [] X;simp only[sG,xb] at this;rw[M8];exact this
theorem aBH (bl:dC C)(hΦ:dc C Φ):Nd C n ids Φ (Mk C n ids):=by
 intro id ops draw S r hr rd w0 σ0 ρ ρ' a w Q hC hY hn hg ak hQ;rw[aBG] at hr;unfold Ml at hr;cases aH:qV n ops<;>simp only[aH,cond_true,cond_false] at hr
 ·cases hr
 cases draw with
 |false=>
  simp only[cond_false] at hr;cases hgb:aar ops<;>simp only[hgb,cond_true,cond_false] at hr
  ·cases hr
  simp only[aG] at hr;obtain⟨q,hq,rfl⟩:=hr;refine wpIn_region ?_
  have pq:la ops []=fun _=>False:=by
   funext t;apply propext;constructor
   ·rintro⟨i,o,h,_⟩;cases h
   ·intro h;exact h.elim
  refine uT hC bl hΦ hY aH (List.range ops.size) [] (by simpa using M7) (fun p i q o j want hl ho jM=>?_) hn (by rw[pq];exact hg) hq ak (fun a' w' iP fu=>hQ a' w' iP (by
   have:=fu.snapF S.rs.length ids
   rw[show q.1.snap S.rs.length ids=⟨uj (ff q.1) q.1 S.rs (ops.toList.filterMap (·.dst)),ids.map fun j=>gN q.1 (q.1.o j)⟩ from by
        unfold St.snap;rw[E9 fun t ht=>?_];rw[Ou hq t (fun i o hi ho e=>ht (sF.2 ⟨o,by simpa using gz ho,e⟩))];show _=ff q.1 (cr (S.rs.getD t .none));cases S.rs.getD t .none<;>rfl] at this
   exact this))
  have hi:i<ops.size:=by
   have:i∈List.range ops.size:=by rw[hl];simp
   exact cj.1 this
  have hb:=bK.1 hgb i (cj.2 hi);rw[ho] at hb;simp only[jM,ix] at hb;have hp:=List.pairwise_lt_range (n:=ops.size);have tn:j∈List.range ops.size:=cj.2 (by omega);rw[hl,XS] at hp;obtain⟨_,fa,_⟩:=hp;rw[XT] at fa;rw[hl,dj] at tn;simp only[sG];rcases tn with hm|hm
  ·exact hm
  ·rcases cX.1 hm with e|hm
   ·omega
   ·have:=fa.1 j hm;omega
 |true=>
  simp only[cond_true] at hr;cases eY:(xN ops&&R1 ops&&C.P.follows .mixedOrders)<;>simp only[eY,cond_true,cond_false] at hr
  ·cases hr
  simp only[ar] at eY;have yj:=eY.1.2
  replace eY:xN ops=true∧C.P.follows .mixedOrders=true:=⟨eY.1.1,eY.2⟩
  have h0:∀i,aw 0 i=false:=fun i=>by rw[rl];simp
  split at hr
  case h_1=>
   rename_i r jL;cases hr;generalize Qt:og (dw ops ops.size) ops.size=m at*;unfold aaf at jL;rw[Qt] at jL;have au5:m≤ops.size:=Qt▸ah0 _ _;have ym:∀i,m≤i→i<ops.size→∀j,j<i→aw ((dw ops ops.size).getD i 0) j=true:=Qt▸ahZ _ _;rw[az] at jL;obtain⟨q,hq,jL⟩:=jL;cases pk:Ci ops (pz (q.map (·.2)) m) (dw ops ops.size) m<;>simp only[pk,cond_true,cond_false] at jL
   ·cases jL
   rw[aG] at jL;obtain⟨r1,hZ,rfl⟩:=jL;refine wpIn_region_any eY.2 ?_
   have pq:uh ops 0=fun _=>False:=by
        funext t;apply propext;constructor
        ·rintro⟨i,o,h,_⟩;rw[h0] at h;cases h
        ·intro h;exact h.elim
   have hlen:(q.map (·.2)).length=m:=by rw[iw];exact(OY hq).1
   have av9:q5 ops 0=ops.size:=by
        unfold q5;have:((List.range ops.size).filter fun i=> !aw 0 i)=List.range ops.size:=List.filter_eq_self.2 fun i _=>by rw[h0];rfl
        rw[this,XQ]
   have CC:(List.range m).filter (aw 0)=[]:=List.filter_eq_nil_iff.2 fun i _=>by rw[h0];simp
   simp only[oa,az] at ak;obtain⟨ρ1,hρ1,hρ2⟩:=ak;have P7:=pk;unfold Ci at P7;rw[ar] at P7;refine aqu (w0:=w0) (S:=S.st ids) hC bl hΦ hY hn aH eY.1 au5 hq pk ym (ρ':=ρ1) (fun listed a' w' aS hl iP fu=>?_) ops.size 0 _ ρ a _ av9 (fun j hj=>by rw[h0] at hj;cases hj) (fun j _ hj=>by rw[h0] at hj;cases hj) (by simp) (fun i=>?_) (.refl _ _) ?_ ?_
   ·refine aCq hC bl hΦ hY aH eY.1 P7.2 ym (ops.size-m) m listed (by omega) (bk _) aS hl (iP.size.trans hn) fu hZ hρ2 (fun a2 w2 s2 g2=>hQ a2 w2 (iP.trans s2) (by
     have:=g2.snapF S.rs.length ids
     rw[show r1.1.snap S.rs.length ids=⟨uj (ff r1.1) r1.1 S.rs (ops.toList.filterMap (·.dst)),ids.map fun j=>gN r1.1 (r1.1.o j)⟩ from by
      unfold St.snap;rw[E9 fun t ht=>?_];rw[Ou hZ t (fun i o hi ho e=>ht (sF.2 ⟨o,by simpa using gz ho,e⟩))]
      have e1:fi ops (q.map (·.1)) (List.range m) (S.st ids).r t=(S.st ids).r t:=E5 fun i hi e=>by
        rw[az] at e;obtain⟨o,ho,hd⟩:=e;exact ht (sF.2 ⟨o,by simpa using gz ho,hd⟩)
      show ff _ (S.rs.getD t .none)=ff _ (fi ops (q.map (·.1)) (List.range m) (S.st ids).r t);rw[e1];show _=ff _ (cr (S.rs.getD t .none));cases S.rs.getD t .none<;>rfl] at this
     exact this))
   ·rw[h0];simp only[dL,ajb];split<;>rfl
   ·rw[pq,CC];exact hg.drew
   ·rw[←hlen,aht];exact hρ1
  simp only[aaG,Snap.hard_eq,az,aG] at hr;obtain⟨X,hX,T,hT,rfl⟩:=hr;refine wpIn_mono (Q:=fun e a w=>(∀c,e≠.panic c)∧Q e a w) ?_ fun e a w h=>h.2;refine wpIn_region_any eY.2 ?_
  have pq:wJ ops 0=fun _=>False:=by
   funext t;apply propext;constructor
   ·rintro⟨i,o,h,_⟩;rw[h0] at h;cases h
   ·intro h;exact h.elim
  have hlen:=ahK hX;rw[XQ] at hlen
  refine aB4 (w0:=w0) hC bl hΦ hY hn aH eY.1 (ρ':=ρ') yj (fun c a w h=>h.1 c rfl) ops.size hT (fun a' w' iP fu=>⟨fun c e=>(by cases e),hQ a' w' iP (by
   have:=fu.snapF T.rs.length ids
   rw[show(T.stO ids).snap T.rs.length ids=⟨T.rs.map (ff (T.stO ids)),ids.map fun j=>gN (T.stO ids) ((T.stO ids).o j)⟩ from by
        unfold St.snap;have:=E9 (g:=ff (T.stO ids)) (S:=T.stO ids) (rs:=T.rs) (ds:=[]) (fun t _=>rfl);rw[←this];rfl] at this
   exact this)⟩) 0 _ (oz.2 rfl) _ ρ a _ (by simp) (fun i=>?_) (.refl _ _) ?_ ?_
  ·rw[h0];simp only[dL,ajb];split<;>rfl
  ·rw[pq];have:=(hg.drew).snapO S.rs.length ids
   rw[show(S.st ids).snapO S.rs.length ids=⟨S.rs.map fun s=>kh (S.st ids) (cr s),ids.map fun j=>gN (S.st ids) ((S.st ids).o j)⟩ from by
        unfold St.snapO
        have:=E9 (g:=fun s=>kh (S.st ids) (cr s)) (S:=S.st ids) (rs:=S.rs) (ds:=[]) (fun t _=>by
         show kh _ (cr (S.rs.getD t .none))=kh _ (cr (cr (S.rs.getD t .none)));cases S.rs.getD t .none<;>rfl)
        have h2:(fun t=>kh (S.st ids) (cr ((S.st ids).r t)))=fun t=>kh (S.st ids) ((S.st ids).r t):=by
         funext t;show kh _ (cr (cr (S.rs.getD t .none)))=kh _ (cr (S.rs.getD t .none));cases S.rs.getD t .none<;>rfl
        rw[h2] at this;rw[←this];rfl] at this
   exact this
  ·rw[←hlen,aht];exact ak
end
end Cx
