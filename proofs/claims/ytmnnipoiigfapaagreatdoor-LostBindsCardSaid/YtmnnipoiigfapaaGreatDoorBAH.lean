/-
  Regions: in the order of the text, and in every order that their edges allow.
-/
import Derived.Test.YtmnnipoiigfapaaGreatDoorBAG
import Derived.OrdersIn
set_option linter.unusedSimpArgs false
set_option linter.unusedVariables false
namespace Cx
open Go Go.RowKit
def lg (S:St):Sh→Sh
 |.opt gs s=>.opt gs (eV S s)
 |s=>eV S s
def St.snapO (n:Nat)(ids:List Nat)(S:St):Snap:=⟨(List.range n).map fun t=>lg S (S.r t),ids.map fun j=>ir S (S.o j)⟩
def Snap.stO (ids:List Nat)(s:Snap):St:=⟨fun t=>s.rs.getD t .none,fun j=>dm ids s.os j,fun _=>0⟩
theorem rP (S:St)(s:Sh):∀gs s',eV S s≠.opt gs s':=by
 intro gs s' e;cases s<;>simp only[eV] at e<;>first|cases e|(revert e;cases Nat.beq _ _<;>intro e<;>cases e)|(revert e;cases List.all _ _<;>intro e<;>cases e)
section
variable {C:Ctx} {S:St} {ρ:Env} {σ:Im} {own:Nat→Option Nat} {hv:Nat→Value} {w0:World} {σ0:Base} {A:Nat→Prop} {a:Act} {w:World} {n:Nat} {ids:List Nat} {Φ:aR}
theorem aqG {s:Sh}{v:Value}{d:D}(h:aG C S ρ σ hv s v d){T:St}(hT:T.ver=fun _=>0):aG C T ρ σ hv (lg S s) v d:=by
 have hc:Compat S.norm hv T hv:=⟨fun j=>by rw[hT];exact pC _,fun _ _=>rfl⟩
 have key:∀s,aG C S ρ σ hv s v d→aG C T ρ σ hv (eV S s) v d:=fun s hs=>aG.mono' (.refl σ) hc (rP S s) (Kp hs).1;cases s with
 |opt gs s=>exact⟨fun hh=>key s (h.1 hh),h.2⟩
 |_=>exact key _ h
theorem Good.snapO (h:Good C w0 σ0 S ρ A a w)(n:Nat)(ids:List Nat):Good C w0 σ0 ((S.snapO n ids).stO ids) ρ A a w:=by
 obtain⟨σ,own,hv,h⟩:=h;have h1:=h.norm;have hc:Compat S.norm hv ((S.snapO n ids).stO ids) hv:=⟨fun _=>bl _,fun _ _=>rfl⟩
 refine⟨σ,own,hv,h.defers,h.ok,h.le,h.old,h.newc,h.newm,h.below,h.bw,h.owns,fun t=>?_,fun j=>?_,fun t gs s e=>?_,?_⟩
 rotate_right
 ·obtain⟨t,fx,cx,f1,f5⟩:=h.frame;refine⟨t,fx,cx,f1,fun j hj=>f5 j ?_⟩;exact xF (fun j=>ir S (S.o j)) (fun ob=>ob=.tr→S.o j=.tr) (fun e=>by cases e) j abI ids hj
 ·show aG C _ ρ σ hv (((List.range n).map fun t=>lg S (S.r t)).getD t .none) _ _;rw[aJ,cB];by_cases ht:t<n
  ·rw[qW ht];exact aqG (h.regs t) rfl
  ·rw[sI (by simpa using ht)];trivial
 ·have ho:=(h1.objs j).mono (.refl σ) hc (w:=w) (w':=w) rfl rfl (fun k hk=>⟨hk,rfl⟩);exact xF (fun j=>ir S (S.o j)) (fun ob=>cg C _ ρ σ own hv w w0.heap.size j ob) trivial j ho ids
 ·change ((List.range n).map fun t=>lg S (S.r t)).getD t .none=.opt gs s at e;rw[aJ,cB] at e;by_cases ht:t<n
  ·rw[qW ht] at e;simp only[km,jK] at e;cases hs:S.r t with
   |opt bM s'=>
    rw[hs] at e;simp only[lg,Sh.opt.injEq] at e;obtain⟨rfl,rfl⟩:=e;exact⟨(h.opts t bM s' hs).1,rP S s'⟩
   |none=>rw[hs] at e;exact absurd e (rP S .none gs s)
   |yv=>rw[hs] at e;exact absurd e (rP S .yv gs s)
   |fclo f c=>rw[hs] at e;exact absurd e (rP S (.fclo f c) gs s)
   |agg l=>rw[hs] at e;exact absurd e (rP S (.agg l) gs s)
   |dat t=>rw[hs] at e;exact absurd e (rP S (.dat t) gs s)
   |obj t u=>rw[hs] at e;exact absurd e (rP S (.obj t u) gs s)
   |ptr t u v=>rw[hs] at e;exact absurd e (rP S (.ptr t u v) gs s)
   |eptr t u v x=>rw[hs] at e;exact absurd e (rP S (.eptr t u v x) gs s)
  ·rw[sI (by simpa using ht)] at e;cases e
theorem Good.snapF (h:Good C w0 σ0 S ρ A a w)(n:Nat)(ids:List Nat):Good C w0 σ0 ((S.snap n ids).st ids) ρ (fun _=>False) a w:=by
 obtain⟨σ,own,hv,h⟩:=h;exact⟨σ,own,hv,h.snap n ids⟩
theorem Good.drew (h:Good C w0 σ0 S ρ A a w):Good C w0 σ0 S ρ A a {w with drawn:=w.drawn+1}:=by
 obtain⟨σ,own,hv,h⟩:=h;refine⟨σ,own,hv,h.defers,⟨fun k o v e=>h.ok.c k o v e,fun k es e=>h.ok.m k es e⟩,h.le,h.old,h.newc,h.newm,h.below.drew,h.bw,h.owns,h.regs,fun j=>?_,h.opts,?_⟩
 rotate_right
 ·obtain⟨t,fx,cx,f1,f2⟩:=h.frame;exact⟨t,fx,cx,⟨σ0.keep _ _ _ _ _ f1.F (Below.drew (.refl _ _)) (fun _ _=>rfl),f1.own,f1.c,f1.m,f1.d⟩,f2⟩
 exact(h.objs j).mono (.refl σ) (.refl S hv) rfl rfl (fun k hk=>⟨hk,rfl⟩)
end
def vO (g:Sh→Sh)(S:St)(rs:List Sh)(ds:List Nat):List Sh:=(ds.foldl (fun l d=>l.set d (S.r d)) rs).map g
theorem YB (S:St):∀(ds:List Nat) (rs:List Sh),(ds.foldl (fun l d=>l.set d (S.r d)) rs).length=rs.length∧∀t,t<rs.length→(ds.foldl (fun l d=>l.set d (S.r d)) rs).getD t .none=if t∈ds then S.r t else rs.getD t .none
 |[],rs=>⟨rfl,fun t _=>by simp⟩
 |d::ds,rs=>by
  obtain⟨h1,h2⟩:=YB S ds (rs.set d (S.r d));simp only[List.length_set] at h1 h2;refine⟨h1,fun t ht=>?_⟩;rw[Ms,h2 t ht];simp only[cC,aJ,Ct];by_cases hm:t∈ds
  ·simp[hm]
  ·by_cases e:d=t
   ·subst e;simp[hm,ht]
   ·have e':¬t=d:=fun h=>e h.symm;simp[hm,e,e']
theorem GB {g:Sh→Sh}{S:St}{rs:List Sh}{ds:List Nat}(h:∀t,t∉ds→g (rs.getD t .none)=g (S.r t)):vO g S rs ds=(List.range rs.length).map fun t=>g (S.r t):=by
 obtain⟨h1,h2⟩:=YB S ds rs;unfold vO;apply WQ;intro t;simp only[cB];by_cases ht:t<rs.length
 ·have:=h2 t ht;rw[aJ,bF (by omega)] at this;rw[bF (by omega),qW ht];simp only[jK,km] at this ⊢;rw[this];by_cases hm:t∈ds
  ·simp[hm]
  ·simp only[hm,if_false];rw[h t hm]
 ·rw[sI (by omega),sI (by simpa using ht)];rfl
def Sh.hd {α:Type}(s:Sh)(k:Sh→α):α:=
 match s with
 |.none=>k .none
 |.dat t=>k (.dat t)
 |.obj j v=>k (.obj j v)
 |.ptr j v o=>k (.ptr j v o)
 |.eptr j v z o=>k (.eptr j v z o)
 |.opt gs s=>k (.opt gs s)
 |.yv=>k .yv
 |.fclo f c=>k (.fclo f c)
 |.agg l=>k (.agg l)
theorem Sh.hd_eq {α:Type}(s:Sh)(k:Sh→α):s.hd k=k s:=by cases s<;>rfl
def Av {α:Type}:List Sh→(List Sh→α)→α
 |[],k=>k []
 |s::l,k=>s.hd fun s=>Av l fun l=>k (s::l)
theorem OI {α:Type}:∀(l:List Sh) (k:List Sh→α),Av l k=k l
 |[],_=>rfl
 |s::l,k=>by rw[Av,Sh.hd_eq,OI l]
def Ob.hd {α:Type}(s:Ob)(k:Ob→α):α:=
 match s with
 |.dead=>k .dead
 |.fz t=>k (.fz t)
 |.fbox t=>k (.fbox t)
 |.box true l=>Av l fun l=>k (.box true l)
 |.box false l=>Av l fun l=>k (.box false l)
 |.row T e=>k (.row T e)
 |.mp a b=>k (.mp a b)
 |.it a b=>k (.it a b)
 |.tr=>k .tr
theorem Ob.hd_eq {α:Type}(s:Ob)(k:Ob→α):s.hd k=k s:=by
 cases s with
 |box ag l=>cases ag<;>simp only[Ob.hd,OI]
 |_=>rfl
def Jj {α:Type}:List Ob→(List Ob→α)→α
 |[],k=>k []
 |s::l,k=>s.hd fun s=>Jj l fun l=>k (s::l)
theorem YZ {α:Type}:∀(l:List Ob) (k:List Ob→α),Jj l k=k l
 |[],_=>rfl
 |s::l,k=>by rw[Jj,Ob.hd_eq,YZ l]
def Snap.hard {α:Type}(s:Snap)(k:Snap→α):α:=Av s.rs fun a=>Jj s.os fun b=>k ⟨a,b⟩
theorem Snap.hard_eq {α:Type}(s:Snap)(k:Snap→α):s.hard k=k s:=by rw[Snap.hard,OI,YZ]
def Jk {α β:Type}:List β→(List β→α)→α
 |[],k=>k []
 |s::l,k=>Jk l fun l=>k (s::l)
theorem Zb {α β:Type}:∀(l:List β) (k:List β→α),Jk l k=k l
 |[],_=>rfl
 |s::l,k=>by rw[Jk,Zb l]
def DV {α β:Type}:List (List β)→(List (List β)→α)→α
 |[],k=>k []
 |s::l,k=>Jk s fun s=>DV l fun l=>k (s::l)
theorem Za {α β:Type}:∀(l:List (List β)) (k:List (List β)→α),DV l k=k l
 |[],_=>rfl
 |s::l,k=>by rw[DV,Zb,Za l]
def aF (P:Program){α:Type}(s:Sem α):Prop:=(∃a,∀w,s.run P w=.ok a w)∨∀w,∃h w',s.run P w=.halt h w'
section
variable {P:Program}
theorem aF.pure {α:Type}(a:α):aF P (Sem.pure a):=.inl ⟨a,fun w=>rfl⟩
theorem aF.pure' {α:Type}(a:α):aF P (Pure.pure a:Sem α):=.inl ⟨a,fun w=>rfl⟩
theorem aF.halt {α:Type}(h:Halt):aF P (Sem.halt h:Sem α):=.inr fun w=>⟨h,w,rfl⟩
theorem aF.bind' {α β:Type}{s:Sem α}{f:α→Sem β}(h:aF P s)(hf:∀a,(∀w,s.run P w=.ok a w)→aF P (f a)):aF P (s>>=f):=by
 rcases h with⟨a,ha⟩|hd
 ·rcases hf a ha with⟨b,hb⟩|hd
  ·exact .inl ⟨b,fun w=>by rw[Sem.run_bind,ha w];exact hb w⟩
  ·refine .inr fun w=>?_;obtain⟨x,w',e⟩:=hd w;exact⟨x,w',by rw[Sem.run_bind,ha w];exact e⟩
 ·refine .inr fun w=>?_;obtain⟨x,w',e⟩:=hd w;exact⟨x,w',by rw[Sem.run_bind,e];rfl⟩
theorem aF.bind {α β:Type}{s:Sem α}{f:α→Sem β}(h:aF P s)(hf:∀a,aF P (f a)):aF P (s>>=f):=h.bind' fun a _=>hf a
def cl {α:Type}(s:Sem α):Prop:=∀P w,∃h w',s.run P w=.halt h w'
theorem cl.noW {α:Type}{s:Sem α}(h:cl s):aF P s:=.inr (h P)
theorem cl.halt {α:Type}(h:Halt):cl (Sem.halt h:Sem α):=fun P w=>⟨h,w,rfl⟩
theorem cl.of_bind {α β:Type}{s:Sem α}{f:α→Sem β}(hf:∀a,cl (f a)):cl (s>>=f):=by
 intro P w;rw[Sem.run_bind];cases e:s.run P w with
 |ok a w'=>exact hf a P w'
 |halt h w'=>exact⟨h,w',rfl⟩
theorem aF.asBool (v:Value):aF P (Go.asBool v):=by
 cases v<;>first|exact .pure _|exact .halt _
theorem aF.asIntOf (v:Value):aF P (Go.asIntOf v):=by
 unfold Go.asIntOf;split<;>first|exact .pure _|exact .halt _
theorem aF.sureAddr (v:Value):aF P (Instr.sureAddr v):=by
 unfold Instr.sureAddr;split<;>first|exact .pure _|exact .halt _
theorem aF.prog:aF P Go.program:=.inl ⟨P,fun w=>rfl⟩
theorem aF.underlying (t:TypeId):aF P (Go.underlying t):=by
 unfold Go.underlying;refine .bind .prog fun p=>?_;split<;>first|exact .pure _|exact .halt _
theorem aF.sizeOf (t:TypeId):aF P (Go.sizeOf t):=by
 unfold Go.sizeOf Go.typeInfo;refine .bind (.bind .prog fun p=>?_) fun _=>.pure _;split<;>first|exact .pure _|exact .halt _
theorem cl.runtimePanic {α:Type}(e:RuntimeError):cl (Go.runtimePanic e:Sem α):=by
 unfold Go.runtimePanic;refine .of_bind fun p=>?_;cases e<;>first|exact .halt _|exact .of_bind fun _=>.halt _|exact .of_bind fun _=>.of_bind fun _=>.halt _
theorem cl.boundsPanic {α:Type}(k:IntKind)(x y:Int)(c:BoundsCode):cl (Go.boundsPanic k x y c:Sem α):=by
 unfold Go.boundsPanic;dsimp only;split<;>exact .of_bind fun _=>.runtimePanic _
theorem aF.indexAt (t:TypeId)(x i:Value):aF P (Instr.indexAt t x i):=by
 unfold Instr.indexAt
 repeat' (first|(first|exact aF.pure _|exact aF.pure' _|exact aF.halt _|exact cl.noW (cl.boundsPanic _ _ _ _)|exact cl.noW (cl.runtimePanic _)|exact aF.prog|exact aF.underlying _|exact aF.sizeOf _|exact aF.asIntOf _|exact aF.sureAddr _|exact aF.asBool _)|(refine aF.bind ?_ fun _=>?_)|dsimp only|split)
theorem aF.sliceBound (x:Value)(y:Nat)(c:BoundsCode):aF P (Instr.sliceBound x y c):=by
 unfold Instr.sliceBound
 repeat' (first|(first|exact aF.pure _|exact aF.pure' _|exact aF.halt _|exact cl.noW (cl.boundsPanic _ _ _ _)|exact cl.noW (cl.runtimePanic _)|exact aF.prog|exact aF.underlying _|exact aF.sizeOf _|exact aF.asIntOf _|exact aF.sureAddr _|exact aF.asBool _)|(refine aF.bind ?_ fun _=>?_)|dsimp only|split)
theorem aF.sliceBounds (b:Bool)(n m:Nat)(lo hi mx:Option Value):aF P (Instr.sliceBounds b n m lo hi mx):=by
 unfold Instr.sliceBounds
 repeat' (first|exact aF.sliceBound _ _ _|(first|exact aF.pure _|exact aF.pure' _|exact aF.halt _|exact cl.noW (cl.boundsPanic _ _ _ _)|exact cl.noW (cl.runtimePanic _)|exact aF.prog|exact aF.underlying _|exact aF.sizeOf _|exact aF.asIntOf _|exact aF.sureAddr _|exact aF.asBool _)|(refine aF.bind ?_ fun _=>?_)|dsimp only|split)
theorem aF.asAddr (v:Value):aF P (Go.asAddr v):=by
 unfold Go.asAddr
 repeat' (first|(first|exact aF.pure _|exact aF.pure' _|exact aF.halt _|exact cl.noW (cl.boundsPanic _ _ _ _)|exact cl.noW (cl.runtimePanic _)|exact aF.prog|exact aF.underlying _|exact aF.sizeOf _|exact aF.asIntOf _|exact aF.sureAddr _|exact aF.asBool _)|(refine aF.bind ?_ fun _=>?_)|dsimp only|split)
theorem aF.slice (t:TypeId)(x:Value)(lo hi mx:Option Value):aF P (Instr.slice t x lo hi mx):=by
 unfold Instr.slice
 repeat' (first|exact aF.sliceBounds _ _ _ _ _ _|exact aF.asAddr _|(first|exact aF.pure _|exact aF.pure' _|exact aF.halt _|exact cl.noW (cl.boundsPanic _ _ _ _)|exact cl.noW (cl.runtimePanic _)|exact aF.prog|exact aF.underlying _|exact aF.sizeOf _|exact aF.asIntOf _|exact aF.sureAddr _|exact aF.asBool _)|(refine aF.bind ?_ fun _=>?_)|dsimp only|split)
theorem aF.sliceAt (t:TypeId)(x:Value)(lo hi mx:Option Value):aF P (Instr.sliceAt t x lo hi mx):=by
 unfold Instr.sliceAt
 repeat' (first|exact aF.sliceBounds _ _ _ _ _ _|exact aF.slice _ _ _ _ _|(first|exact aF.pure _|exact aF.pure' _|exact aF.halt _|exact cl.noW (cl.boundsPanic _ _ _ _)|exact cl.noW (cl.runtimePanic _)|exact aF.prog|exact aF.underlying _|exact aF.sizeOf _|exact aF.asIntOf _|exact aF.sureAddr _|exact aF.asBool _)|(refine aF.bind ?_ fun _=>?_)|dsimp only|split)
def TF (P:Program)(s:TypeId)(i:Nat):Bool:=
 match P.underlying s with
 |some (.struct fs)=>(match fs[i]? with
  |some f=>(match P.info? f.type with|some d=> !Nat.beq d.size 0|none=>false)
  |none=>false)
 |_=>false
theorem aF.fieldAt {s:TypeId}{i:Nat}(h:TF P s i=true)(a:Value):aF P (Instr.fieldAt s a i):=by
 unfold Instr.fieldAt;refine .bind' (.underlying _) fun d hd=>?_;have hu:P.underlying s=some d:=by
  have:=hd default;unfold Go.underlying at this;rw[Sem.run_bind] at this;change Result.andThen (.ok P default) _=_ at this;simp only[Result.andThen_ok] at this;cases hp:P.underlying s with
  |none=>rw[hp] at this;cases this
  |some d'=>
   rw[hp] at this;change Result.ok d' default=_ at this;cases this;rfl
 unfold TF at h;rw[hu] at h;cases d<;>dsimp only at h ⊢<;>try (first|exact aF.pure _|exact aF.pure' _|exact aF.halt _|exact cl.noW (cl.boundsPanic _ _ _ _)|exact cl.noW (cl.runtimePanic _)|exact aF.prog|exact aF.underlying _|exact aF.sizeOf _|exact aF.asIntOf _|exact aF.sureAddr _|exact aF.asBool _)
 rename_i fs;cases hf:fs[i]? with
 |none=>dsimp only;(first|exact aF.pure _|exact aF.pure' _|exact aF.halt _|exact cl.noW (cl.boundsPanic _ _ _ _)|exact cl.noW (cl.runtimePanic _)|exact aF.prog|exact aF.underlying _|exact aF.sizeOf _|exact aF.asIntOf _|exact aF.sureAddr _|exact aF.asBool _)
 |some f=>
  rw[hf] at h;dsimp only at h ⊢;refine .bind (.sureAddr _) fun a=>.bind ?_ fun _=>.pure _;unfold Go.fieldPlace;refine .bind' (.sizeOf _) fun n hn=>?_;have hz:n≠0:=by
   intro e;have:=hn default;unfold Go.sizeOf Go.typeInfo at this;cases hi:P.info? f.type with
   |none=>rw[hi] at h;cases h
   |some inf=>
    rw[hi] at h;rw[Sem.run_bind,Sem.run_bind] at this;change Result.andThen (Result.andThen (.ok P default) _) _=_ at this;simp only[Result.andThen_ok,hi] at this;change Result.ok inf.size default=_ at this;cases this;dsimp only at h;rw[e] at h;cases h
  rw[if_neg hz]
  (first|exact aF.pure _|exact aF.pure' _|exact aF.halt _|exact cl.noW (cl.boundsPanic _ _ _ _)|exact cl.noW (cl.runtimePanic _)|exact aF.prog|exact aF.underlying _|exact aF.sizeOf _|exact aF.asIntOf _|exact aF.sureAddr _|exact aF.asBool _)
def E8 (P:Program):Op→Bool
 |.move _=>true
 |.assign _=>true
 |.pick ..=>true
 |.fieldAddr s _ i=>TF P s i
 |.indexAddr ..=>true
 |.slice ..=>true
 |_=>false
theorem ar3 {o:Oper}(hp:E8 P o.op=true)(ρ:Operand→Value):(∃v,∀w,(execOp ρ o).run P w=.ok (.value v) w)∨∀w,∃h w',(execOp ρ o).run P w=.halt h w':=by
 have key:∀s:Sem Value,aF P s→(∃v,∀w,(do Pure.pure (Next.value (←s)):Sem Next).run P w=.ok (.value v) w)∨∀w,∃h w',(do Pure.pure (Next.value (←s)):Sem Next).run P w=.halt h w':=by
  intro s hs;rcases hs with⟨a,ha⟩|hd
  ·exact .inl ⟨a,fun w=>by rw[Sem.run_bind,ha w];rfl⟩
  ·refine .inr fun w=>?_;obtain⟨x,w',e⟩:=hd w;exact⟨x,w',by rw[Sem.run_bind,e];rfl⟩
 obtain⟨dst,op,type,pos,after,guard⟩:=o;cases op<;>first|(cases hp;done)|skip
 case move x=>exact .inl ⟨_,fun w=>rfl⟩
 case assign x=>exact .inl ⟨_,fun w=>rfl⟩
 case pick c a b=>
  have:=key (do Pure.pure (if←Go.asBool (ρ c) then ρ a else ρ b)) (.bind (.asBool _) fun _=>.pure _);simp only[execOp];rcases aF.asBool (P:=P) (ρ c) with⟨t,ht⟩|hd
  ·exact .inl ⟨_,fun w=>by rw[Sem.run_bind,ht w];rfl⟩
  ·refine .inr fun w=>?_;obtain⟨x,w',e⟩:=hd w;exact⟨x,w',by rw[Sem.run_bind,e];rfl⟩
 case fieldAddr s x i=>exact key _ (.fieldAt hp _)
 case indexAddr t x i=>exact key _ (.indexAt _ _ _)
 case slice t x lo hi mx=>exact key _ (.sliceAt _ _ _ _ _)
theorem ar4 {rd:Option Nat}{ops:Array Oper}{i:Nat}{o:Oper}{a:Act}{w:World}{K:Act→World→Prop}(hi:ops[i]?=some o)(hp:E8 P o.op=true)
 (h:wpOpIn (FR rd) 0 P ops (fun _ _ _=>False) i K a w):∃v,YieldsFenced P ops o v a∧K (a.put o.dst v) w:=by
 have bq:∀c,o.op≠.defer c:=fun c e=>by rw[e] at hp;cases hp
 have Au:∀w,o.about P w a.eval=none:=fun w=>by
  unfold Oper.about;cases ho:o.op<;>first|rfl|(rw[ho] at hp;cases hp)
 unfold wpOpIn at h;rw[hi] at h;dsimp only at h;cases hw:Region.wanted o (yielded ops a.tmps) with
 |false=>
  rw[hw] at h;exact⟨undef,⟨.inr ⟨hw,rfl⟩,Au⟩,h.2⟩
 |true=>
  rw[hw,if_pos rfl] at h;have h2:=h.2;rw[Oper.semAt_eq _ _ _ bq] at h2;rcases ar3 hp a.eval with⟨v,hv⟩|hd
  ·rw[hv w] at h2;exact⟨v,⟨.inl ⟨hw,hv⟩,Au⟩,h2⟩
  ·obtain⟨x,w',e⟩:=hd w;rw[e] at h2;cases x<;>exact h2.elim
section
variable {F:Fence} {n:Nat} {ops:Array Oper} {Q:Exit→Act→World→Prop} {md:Region.Mode}
theorem YF.wpOpIn {i:Nat}{o:Oper}{v:Value}{a:Act}(bq:oL o.op=true)(hi:ops[i]?=some o)(hy:YieldsFenced P ops o v a)
 {K:Act→World→Prop} {w:World} (h:K (a.put o.dst v) w):wpOpIn F n P ops Q i K a w:=by
 have jV:∀c,o.op≠.defer c:=fun c e=>by rw[e] at bq;cases bq
 unfold Go.wpOpIn;simp only[hi];have Au:∀f,o.about P w a.eval=some f→F.fn f:=fun f hf=>by rw[hy.2 w] at hf;cases hf
 rcases hy.1 with⟨hw,hv⟩|⟨hw,rfl⟩
 ·simp only[hw,if_true,Oper.wpIn,Oper.semAt_eq _ _ _ jV,hv w,Oper.uponIn];exact⟨Au,h⟩
 ·simp only[hw,v5,if_false];exact⟨Au,h⟩
theorem awS {j:Nat}{oi oj:Oper}{v:Value}(bq:oL oj.op=true)(hj:ops[j]?=some oj)(OH:oi.apart ops oj=true)
 (hsi:∀cs b,oi.op≠.select cs b) (hsj:∀cs b,oj.op≠.select cs b)
 (hQ:∀c a w,Q (.panic c) (a.put oi.dst v) w→Q (.panic c) a w) {K:Act→World→Prop} {a:Act} {w:World}
 (hy:YieldsFenced P ops oi v a) (h:wpOpIn F n P ops Q j K (a.put oi.dst v) w):
 wpOpIn F n P ops Q j (fun a' w'=>YieldsFenced P ops oi v a'∧K (a'.put oi.dst v) w') a w:=by
 have jV:∀c,oj.op≠.defer c:=fun c e=>by rw[e] at bq;cases bq
 obtain⟨h1,h2,h3⟩:=Oper.apart_spec OH;have keep:∀(a:Act),YieldsFenced P ops oi v a→∀u,YieldsFenced P ops oi v (a.put oj.dst u):=fun a hy u=>
  hy.of_same (execOp_put oi hsi a oj.dst u h3) (wanted_put oi a oj.dst u h3) (fun w=>about_put oi w a oj.dst u h3)
 have aoo:∀d,YieldsFenced P ops oi v {a with defers:=d::a.defers}:=fun d=>hy.of_same rfl rfl (fun _=>rfl);unfold Go.wpOpIn at*;simp only[hj] at*;rw[wanted_put oj a oi.dst v h1,about_put oj w a oi.dst v h1] at h;split
 ·rename_i hw;simp only[hw,if_true] at h;unfold Oper.wpIn at*;rw[about_put oj w a oi.dst v h1] at h;refine⟨h.1,?_⟩;have h:=h.2;rw[Oper.semAt_eq _ _ _ jV,execOp_put oj hsj a oi.dst v h1] at h;rw[Oper.semAt_eq _ _ _ jV];generalize (execOp a.eval oj).run P w=r at*;cases r with
  |ok x w'=>
   cases x<;>simp only[Oper.uponIn] at h ⊢
   case value u=>exact⟨keep a hy u,by rw[←Act.put_comm a v u h2];exact h⟩
   case skip=>exact⟨keep a hy _,by rw[←Act.put_comm a v undef h2];exact h⟩
   case defer d=>
        refine⟨keep _ (aoo d) _,?_⟩;rw[←Act.put_comm _ v undef h2,←Act.put_defers];exact h
   case enter f args=>
        refine⟨h.1,CallsIn.mono h.2 fun e kK he=>?_⟩;cases e with
        |returned u=>exact⟨keep a hy u,by rw[←Act.put_comm a v u h2];exact he⟩
        |panicked c=>exact hQ _ _ _ he
        |outgrown=>exact he
   case row row args=>exact⟨h.1,RowsIn.mono h.2 fun u kK he=>⟨keep a hy u,by rw[←Act.put_comm a v u h2];exact he⟩⟩
   case round l f tmps assign body=>
        refine⟨h.1,RoundIn.mono h.2 fun e kK he=>?_⟩;cases e with
        |returned u=>exact⟨keep a hy u,by rw[←Act.put_comm a v u h2];exact he⟩
        |panicked c=>exact hQ _ _ _ he
        |outgrown=>exact he
  |halt x w'=>
   cases x<;>simp only[Oper.uponIn] at h ⊢
   case panic u=>exact hQ _ _ _ h
 ·rename_i hw;simp only[hw] at h;exact⟨h.1,keep a hy _,by rw[←Act.put_comm a v undef h2];exact h.2⟩
theorem awR {i:Nat}{oi:Oper}{v:Value}(bq:∀(j:Nat) (o:Oper),ops[j]?=some o→oL o.op=true)(hi:ops[i]?=some oi)(AR:∀(j:Nat) (o:Oper) cs b,ops[j]?=some o→o.op≠.select cs b)
 (hQ:∀c a w,Q (.panic c) (a.put oi.dst v) w→Q (.panic c) a w):
 ∀(fuel:Nat) (listed:Array Bool) (a:Act) (w:World),
  (∀j oj,ops[j]?=some oj→j≠i→listed.getD j true=false→(∀e∈oj.after,Region.binds md e=true→e.on≠i)→oi.apart ops oj=true)→
  i∈Region.ready md ops listed→YieldsFenced P ops oi v a→
  wpAnyIn F n P md ops Q fuel (listed.setIfInBounds i true) (a.put oi.dst v) w→wpAnyIn F n P md ops Q (fuel+1) listed a w:=by
 intro fuel
 induction fuel with
 |zero=>
  intro listed a w _ hr hy H;refine⟨fun h=>(by rw[h] at hr;cases hr),fun j hj=>?_⟩;by_cases hH:j=i
  ·subst hH;exact YF.wpOpIn (bq _ _ hi) hi hy H
  ·have:=ready_mono hj hH;rw[H.1] at this;cases this
 |succ fuel ih=>
  intro listed a w np hr hy H;refine⟨fun h=>(by rw[h] at hr;cases hr),fun j hj=>?_⟩;by_cases hH:j=i
  ·subst hH;exact YF.wpOpIn (bq _ _ hi) hi hy H
  ·have h1:=H.2 j (ready_mono hj hH);obtain⟨ZD,oj,rH,aP⟩:=mem_ready.1 hj
   have Pl:∀e∈oj.after,Region.binds md e=true→e.on≠i:=fun e he hb heq=>by
        have h1:=aP e he hb;have h0:=(mem_ready.1 hr).1;rw[heq] at h1;rcases MA i listed.size with h'|h'
        ·simp[h'] at h0 h1;rw[h0] at h1;cases h1
        ·simp[Array.getElem?_eq_none h'] at h1
   have h2:=awS (bq _ _ rH) rH (np j oj rH hH ZD Pl) (fun cs b=>AR i oi cs b hi) (fun cs b=>AR j oj cs b rH) hQ hy h1;have amb:∀k ok,ops[k]?=some ok→k≠i→(listed.setIfInBounds j true).getD k true=false→
    (∀e∈ok.after,Region.binds md e=true→e.on≠i)→oi.apart ops ok=true:=fun k ok hk hki ny dD=>by
        refine np k ok hk hki ?_ dD;by_cases w7:j=k
        ·subst w7;exact ZD
        ·rw[getD_set_ne true w7] at ny;exact ny
   refine wpOpIn_mono (fun a' w' h3=>ih (listed.setIfInBounds j true) a' w' amb (ready_mono hr (qX hH)) h3.1 ?_) h2;rw[Array.setIfInBounds_comm _ _ hH];exact h3.2
end
end
def sR (P:Program)(ops:Array Oper):List (Option (List Nat)):=(List.range ops.size).map fun i=>match ops[i]? with
 |some oi=>bif E8 P oi.op then some ((List.range ops.size).filter fun j=> !(Nat.beq j i||(match ops[j]? with|some oj=>(oj.after.toList.any fun e=>Region.binds .any e&&Nat.beq e.on i)||oi.apart ops oj|none=>true))) else none
 |none=>none
def Ca (bad:List (Option (List Nat)))(E:Nat):List Nat→Option Nat
 |[]=>none
 |i::l=>match bad.getD i none with
  |some b=>bif b.all (aw E) then some i else Ca bad E l
  |none=>Ca bad E l
def QE (ops:Array Oper):Bool:=ops.toList.all fun o=>match o.op with|.select ..=>false|_=>true
theorem L3 {bad:List (Option (List Nat))}{E:Nat}:∀{l:List Nat} {i:Nat},Ca bad E l=some i→i∈l∧∃b,bad.getD i none=some b∧b.all (aw E)=true
 |[],_,h=>by cases h
 |i::l,j,h=>by
  unfold Ca at h;split at h
  ·rename_i b hb;cases hc:b.all (aw E) with
   |true=>
    rw[hc] at h;cases h;exact⟨du ..,b,hb,hc⟩
   |false=>
    rw[hc] at h;obtain⟨h1,h2⟩:=L3 h;exact⟨di _ h1,h2⟩
  ·obtain⟨h1,h2⟩:=L3 h;exact⟨di _ h1,h2⟩
theorem ahh {P:Program}{ops:Array Oper}{i:Nat}{b:List Nat}(h:(sR P ops).getD i none=some b):∃oi,ops[i]?=some oi∧E8 P oi.op=true∧
 ∀j oj,ops[j]?=some oj→j≠i→j∉b→(∀e∈oj.after,Region.binds .any e=true→e.on≠i)→oi.apart ops oj=true:=by
 unfold sR at h;rw[aJ,cB] at h;by_cases hi:i<ops.size
 ·rw[qW hi] at h;simp only[km,jK] at h;rw[fF hi] at h;dsimp only at h;cases hp:E8 P ops[i].op<;>rw[hp] at h<;>simp only[cond_true,cond_false] at h
  ·cases h
  injection h with h
  refine⟨ops[i],fF hi,hp,fun j oj hj hH JA dD=>?_⟩;have af:j<ops.size:=(gp.1 hj).1;rw[←h] at JA;have h2:¬(!(Nat.beq j i||(match ops[j]? with|some oj=>(oj.after.toList.any fun e=>Region.binds .any e&&Nat.beq e.on i)||ops[i].apart ops oj|none=>true)))=true:=fun hc=>JA (dj.2 ⟨bY.2 af,hc⟩);rw[hj,ew hH] at h2;simp only[qT,iy,Bool.not_eq_false,gF] at h2;rcases h2 with h2|h2
  ·obtain⟨e,he,hb⟩:=nY.1 h2;rw[aq] at hb;exact absurd (cR hb.2) (dD e (by simpa using he) hb.1)
  ·exact h2
 ·rw[sI (by simpa using hi)] at h;cases h
def EL (E:Nat)(T:Snap):List (Nat×Snap)→Option (List (Nat×Snap))
 |[]=>some [(E,T)]
 |x::l=>bif Nat.beq x.1 E then(bif x.2.beq T then some (x::l) else none) else(EL E T l).map (x::·)
def lY (ops:Array Oper)(E:Nat):List Nat:=
 (List.range ops.size).filter fun i=> !aw E i&&(match ops[i]? with|some o=>o.after.toList.all fun e=> !Region.binds .any e||aw E e.on|none=>false)
def Rt (C:Ctx)(ops:Array Oper)(n:Nat)(ids:List Nat)(X:List (List PI))(nc:List (List Nat))(E:Nat)(T:Snap)(i:Nat):Option (Nat×Snap):=
 match ops[i]? with
 |some o=>(pV C (T.stO ids) ops o).bind fun r=>
  bif PI.beqs r.2 (X.getD i [])&&(nc.getD i []).all (aw E) then some (Nat.lor E (dK i),⟨vO (lg r.1) r.1 T.rs o.dst.toList,ids.map fun j=>ir r.1 (r.1.o j)⟩) else none
 |none=>none
def GC (one:Nat→Option (Nat×Snap)):List Nat→List (Nat×Snap)→Option (List (Nat×Snap))
 |[],acc=>some acc
 |i::l,acc=>(one i).bind fun x=>x.2.hard fun T=>(EL x.1 T acc).bind fun acc=>GC one l acc
def pP (ops:Array Oper)(bad:List (Option (List Nat)))(E:Nat):List Nat:=
 match Ca bad E (lY ops E) with
 |some i=>[i]
 |none=>lY ops E
def ET (ops:Array Oper)(bad:List (Option (List Nat)))(one:Nat→Snap→Nat→Option (Nat×Snap)):List (Nat×Snap)→List (Nat×Snap)→Option (List (Nat×Snap))
 |[],acc=>some acc
 |x::l,acc=>
  match pP ops bad x.1 with
  |[]=>none
  |rs=>(GC (one x.1 x.2) rs acc).bind fun acc=>ET ops bad one l acc
def Gx (ops:Array Oper)(bad:List (Option (List Nat)))(one:Nat→Snap→Nat→Option (Nat×Snap)):Nat→List (Nat×Snap)→Option Snap
 |0,L=>
  match L with
  |[x]=>bif (List.range ops.size).all (aw x.1) then some x.2 else none
  |_=>none
 |k+1,L=>(ET ops bad one L []).bind fun L=>Gx ops bad one k L
theorem aar {E:Nat}{T:Snap}:∀{l l':List (Nat×Snap)},EL E T l=some l'→(E,T)∈l'∧∀x,x∈l→x∈l'
 |[],l',h=>by simp only[EL,aT] at h;subst h;simp
 |x::l,l',h=>by
  simp only[EL] at h;cases hb:Nat.beq x.1 E<;>simp only[hb,cond_true,cond_false] at h
  ·simp only[aC] at h;obtain⟨l2,h2,rfl⟩:=h;obtain⟨h3,h4⟩:=aar h2;exact⟨di _ h3,fun y hy=>(cC.1 hy).elim (fun e=>e▸du ..) fun hm=>di _ (h4 y hm)⟩
  ·cases hs:x.2.beq T<;>simp only[hs,cond_true,cond_false] at h
   ·cases h
   ·cases h;refine⟨?_,fun y hy=>hy⟩;have e1:=cR hb;have e2:=Snap.beq_eq _ _ hs;subst e1;subst e2;simp
theorem afw {one:Nat→Option (Nat×Snap)}:∀{rs:List Nat} {acc Cz:List (Nat×Snap)},GC one rs acc=some Cz→(∀x,x∈acc→x∈Cz)∧∀i,i∈rs→∃x,one i=some x∧x∈Cz
 |[],acc,Cz,h=>by simp only[GC,aT] at h;subst h;simp
 |i::rs,acc,Cz,h=>by
  simp only[GC,Snap.hard_eq,av] at h;obtain⟨x,hx,agJ,h1,h2⟩:=h;obtain⟨h3,h4⟩:=aar h1;obtain⟨h5,h6⟩:=afw h2;refine⟨fun y hy=>h5 y (h4 y hy),fun j hj=>?_⟩;rcases cC.1 hj with e|hm
  ·subst e;exact⟨x,hx,h5 _ h3⟩
  ·exact h6 j hm
theorem aaL {ops:Array Oper}{bad:List (Option (List Nat))}{one:Nat→Snap→Nat→Option (Nat×Snap)}:∀{L acc L':List (Nat×Snap)},ET ops bad one L acc=some L'→
 (∀x,x∈acc→x∈L')∧∀x,x∈L→pP ops bad x.1≠[]∧∀i,i∈pP ops bad x.1→∃y,one x.1 x.2 i=some y∧y∈L'
 |[],acc,L',h=>by simp only[ET,aT] at h;subst h;simp
 |x::L,acc,L',h=>by
  simp only[ET] at h;split at h
  ·cases h
  ·rename_i aE;simp only[av] at h;obtain⟨agJ,h1,h2⟩:=h;obtain⟨h3,h4⟩:=afw h1;obtain⟨h5,h6⟩:=aaL h2;refine⟨fun y hy=>h5 y (h3 y hy),fun y hy=>?_⟩;rcases cC.1 hy with e|hm
   ·subst e;refine⟨fun e=>aE e,fun i hi=>?_⟩;obtain⟨z,hz,hm⟩:=h4 i hi;exact⟨z,hz,h5 z hm⟩
   ·exact h6 y hm
def eC (X:List (List PI))(l:List Nat)(E:Nat):List PI:=l.flatMap fun i=>bif aw E i then[] else X.getD i []
theorem Tp {X:List (List PI)}{E E':Nat}:∀(l:List Nat),(∀i,i∈l→aw E i=aw E' i)→eC X l E=eC X l E'
 |[],_=>rfl
 |i::l,h=>by
  have ih:=Tp (X:=X) l fun j hj=>h j (di _ hj);unfold eC at ih ⊢;simp only[wc];rw[ih,h i (du ..)]
theorem Foot.comm_each {a b:List PI}(h:(gZ a).comm (gZ b)=true):∀p q,p∈a→q∈b→Comm p q:=by
 simp only[Foot.comm,aq] at h;obtain⟨h1,h2,h3,h4,h5,h6⟩:=h;intro p q hp hq;obtain⟨p1,p2,p3,p4⟩:=YC hp;obtain⟨q1,q2,q3,q4⟩:=YC hq;exact⟨fun t x y=>Qk h1 (p1 t x) (q1 t y),fun t x y=>Qk h2 (p1 t x) (q3 t y),fun t x y=>Qk h3 (q1 t x) (p3 t y),fun t x y=>MT h4 (p2 t x) (q2 t y),fun t x y=>MT h5 (p2 t x) (q4 t y),fun t x y=>MT h6 (q2 t x) (p4 t y)⟩
def qw (X:List (List PI))(N:Nat):List (List Nat):=
 (List.range N).map fun i=>(List.range i).filter fun j=> !(gZ (X.getD j [])).comm (gZ (X.getD i []))
theorem je (E i j:Nat):aw (Nat.lor E (dK i)) j=(aw E j||Nat.beq i j):=by
 rw[fb]
 congr 1
 rw[sU];show(1<<<i).testBit j=_;rw[Nat.testBit_shiftLeft];by_cases h:i=j
 ·subst h;simp
 ·have h1:Nat.beq i j=false:=ew h;rw[h1];by_cases h2:i≤j
  ·have:j-i≠0:=by omega
   cases hk:j-i with
   |zero=>omega
   |succ k=>
    have:(1:Nat).testBit (k+1)=false:=by simp[Nat.testBit_succ]
    simp[this]
  ·simp[h2]
theorem aeY {X:List (List PI)}{N E i:Nat}(hi:i<N)(hb:aw E i=false)(cX:((qw X N).getD i []).all (aw E)=true)(Φ:aR)(ρ:Env):
 PI.runs Φ (eC X (List.range N) E) ρ=(PI.runs Φ (X.getD i []) ρ).bind (PI.runs Φ (eC X (List.range N) (Nat.lor E (dK i)))):=by
 obtain⟨l1,l2,hl⟩:=WN (bY.2 hi);have hp:=List.pairwise_lt_range (n:=N);rw[hl,List.pairwise_append] at hp;obtain⟨_,fo,hp3⟩:=hp;rw[List.pairwise_cons] at fo;have lt1:∀j,j∈l1→j<i:=fun j hj=>hp3 j hj i (du ..);have lt2:∀j,j∈l2→i<j:=fun j hj=>fo.1 j hj;have e0:∀E,eC X (l1++i::l2) E=eC X l1 E++((bif aw E i then[] else X.getD i [])++eC X l2 E):=fun E=>by simp[eC]
 have e1:eC X l1 (Nat.lor E (dK i))=eC X l1 E:=Tp l1 fun j hj=>by
  rw[je,ew (by have:=lt1 j hj;omega),sH]
 have e2:eC X l2 (Nat.lor E (dK i))=eC X l2 E:=Tp l2 fun j hj=>by
  rw[je,ew (by have:=lt2 j hj;omega),sH]
 have e3:aw (Nat.lor E (dK i)) i=true:=by rw[je,gH,nX]
 rw[hl,e0,e0,e1,e2,e3,hb];simp only[cond_true,cond_false,uA]
 have alP:PI.runs Φ (eC X l1 E++X.getD i [])=PI.runs Φ (X.getD i []++eC X l1 E):=funext fun ρ=>PI.comms _ _ (fun p q hp hq=>by
  unfold eC at hp;obtain⟨j,hj,hp⟩:=m5.1 hp;cases qf:aw E j<;>simp only[qf,cond_true,cond_false] at hp
  case true=>cases hp
  have hc:(gZ (X.getD j [])).comm (gZ (X.getD i []))=true:=by
   cases fi:(gZ (X.getD j [])).comm (gZ (X.getD i [])) with
   |true=>rfl
   |false=>
    have rC:(qw X N).getD i []=(List.range i).filter fun j=> !(gZ (X.getD j [])).comm (gZ (X.getD i [])):=by
     unfold qw;rw[aJ,cB,qW hi];rfl
    rw[rC] at cX;have:=bK.1 cX j (dj.2 ⟨bY.2 (lt1 j hj),by rw[fi];rfl⟩);rw[qf] at this;cases this
  exact Foot.comm_each hc p q hp hq) ρ
 rw[←px,oY,alP];have:=oY (Φ:=Φ) (a:=X.getD i []) (b:=eC X l1 E) (ρ:=ρ);rw[this,Option.bind_assoc]
 congr 1
 funext ρ1;rw[oY]
def eX (C:Ctx)(ops:Array Oper):List Nat→St→Option (List (List PI))
 |[],_=>some []
 |i::l,S=>
  match ops[i]? with
  |some o=>(pV C S ops o).bind fun r=>(eX C ops l r.1).map fun q=>r.2::q
  |none=>none
def YL (ops:Array Oper):Bool:=(List.range ops.size).all fun i=>match ops[i]? with
 |some o=>(match o.guard with|some (j,_)=>Nat.blt j i|none=>true)
 |none=>true
def Ar (ops:Array Oper):Bool:=ops.toList.all fun o=>match o.guard with
 |some (j,_)=>o.after.toList.any fun e=>Region.binds .any e&&Nat.beq e.on j
 |none=>true
def bG:Operand→List Nat
 |.tmp t=>[t]
 |_=>[]
def Cd:Option Operand→List Nat
 |some x=>bG x
 |none=>[]
def lM:Op→List Nat
 |.move x=>bG x
 |.assign x=>bG x
 |.unOp _ _ x=>bG x
 |.convert _ _ x=>bG x
 |.load _ x=>bG x
 |.fieldAddr _ x _=>bG x
 |.field _ x _=>bG x
 |.extract x _=>bG x
 |.nilCheck x=>bG x
 |.pick c x y=>bG c++bG x++bG y
 |.binOp _ _ x y _=>bG x++bG y
 |.indexAddr _ x i=>bG x++bG i
 |.index _ x i=>bG x++bG i
 |.lookup _ m k _=>bG m++bG k
 |.slice _ x lo hi _=>bG x++Cd lo++Cd hi
 |.build _ ps=>ps.toList.flatMap fun p=>bG p.2
 |.call c=>(match c.callee with|.value x=>bG x|_=>[])++c.args.toList.flatMap bG
 |.store _ x v=>bG x++bG v
 |.mapUpdate _ m k v=>bG m++bG k++bG v
 |_=>[]
def I6 (ops:Array Oper)(o:Oper):List Nat:=
 match o.guard with
 |some (j,_)=>(match(ops[j]?).bind (·.dst) with|some t=>[t]|none=>[])
 |none=>[]
def St.withR (S:St)(f:Nat→Sh):St:=⟨f,S.o,S.ver⟩
section
variable {C:Ctx} {S:St} {f:Nat→Sh} {gs:List (Nat×Bool)} {dst:Nat}
theorem B5 {t:Nat}(h:f t=S.r t):kI (S.withR f) gs t=kI S gs t:=by
 have e:(S.withR f).r t=S.r t:=h;unfold kI;rw[e]
theorem vM {x:Operand}(h:∀t,t∈bG x→f t=S.r t):fC (S.withR f) gs x=fC S gs x:=by
 cases x<;>first|rfl|exact B5 (h _ (py.2 rfl))
theorem NP:∀(l:List Sh) (j:PE) (i:Nat),re (S.withR f) j l i=re S j l i
 |[],_,_=>rfl
 |s::l,j,i=>by simp only[re];rw[NP l j (i+1)];rfl
theorem MR:∀(l:List AgC),wu (S.withR f) l=wu S l
 |[]=>rfl
 |.dat _::l=>MR l
 |.obj j ver::l=>by simp only[wu];rw[MR l];rfl
theorem Xb:∀(l:List Sh),uD (S.withR f) l=uD S l
 |[]=>rfl
 |s::l=>by simp only[uD];rw[Xb l];rfl
theorem dZ {x:Operand}(h:∀t,t∈bG x→f t=S.r t):use C (S.withR f) gs x=use C S gs x:=by
 cases x<;>first|rfl|(unfold use;simp only;rw[B5 (h _ (py.2 rfl))];simp only[NP];rfl)
theorem afW {x:Operand}(h:∀t,t∈bG x→f t=S.r t):view C (S.withR f) gs x=view C S gs x:=by
 unfold view;rw[dZ h];cases x<;>first|rfl|(simp only;rw[B5 (h _ (py.2 rfl))];rfl)
theorem Wn:∀{xs:List Operand},(∀t,t∈xs.flatMap bG→f t=S.r t)→kJ C (S.withR f) gs xs=kJ C S gs xs
 |[],_=>rfl
 |x::xs,h=>by
  simp only[kJ]
  rw[dZ fun t ht=>h t (m5.2 ⟨x,du ..,ht⟩),Wn fun t ht=>by
   obtain⟨y,hy,tI⟩:=m5.1 ht;exact h t (m5.2 ⟨y,di _ hy,tI⟩)]
theorem awG {x:Option Operand}(h:∀t,t∈Cd x→f t=S.r t):GO C (S.withR f) gs x=GO C S gs x:=by
 cases x with
 |none=>rfl
 |some x=>exact dZ h
theorem awE {e:PE}{x:Option Operand}(h:∀t,t∈Cd x→f t=S.r t):GN C (S.withR f) gs e x=GN C S gs e x:=by
 cases x with
 |none=>rfl
 |some x=>exact dZ h
theorem rR:∀{xs:List Operand},(∀t,t∈xs.flatMap bG→f t=S.r t)→bP (S.withR f) gs xs=bP S gs xs
 |[],_=>rfl
 |x::xs,h=>by
  simp only[bP]
  rw[vM fun t ht=>h t (m5.2 ⟨x,du ..,ht⟩),rR fun t ht=>by
   obtain⟨y,hy,tI⟩:=m5.1 ht;exact h t (m5.2 ⟨y,di _ hy,tI⟩)]
  simp only[MR];rfl
theorem jy {P:Nat→Prop}{a b:List Nat}(h:∀t,t∈a++b→P t):(∀t,t∈a→P t)∧∀t,t∈b→P t:=
 ⟨fun t ht=>h t (jI _ ht),fun t ht=>h t (kh _ ht)⟩
theorem adp {x:Operand}(h:∀t,t∈bG x→f t=S.r t):qy C (S.withR f) gs dst x=qy C S gs dst x:=by
 unfold qy;rw[dZ h];cases x<;>first|rfl|(simp only;rw[B5 (h _ (py.2 rfl))])
theorem ark {c x y:Operand}(h:∀t,t∈bG c++bG x++bG y→f t=S.r t):Bq C (S.withR f) gs dst c x y=Bq C S gs dst c x y:=by
 obtain⟨h1,h3⟩:=jy h;obtain⟨h1,h2⟩:=jy h1;unfold Bq;cases c<;>first|rfl|skip
 simp only;rw[B5 (h1 _ (py.2 rfl)),dZ h2,dZ h3]
theorem aqT {op:BinOp}{T:TypeId}{x y:Operand}(h:∀t,t∈bG x++bG y→f t=S.r t):Bf C (S.withR f) gs dst op T x y=Bf C S gs dst op T x y:=by
 obtain⟨h1,h2⟩:=jy h;unfold Bf;rw[dZ h1,dZ h2]
theorem arq {op:UnOp}{x:Operand}(h:∀t,t∈bG x→f t=S.r t):Bs C (S.withR f) gs dst op x=Bs C S gs dst op x:=by unfold Bs;rw[dZ h]
theorem aqX {s d:TypeId}{x:Operand}(h:∀t,t∈bG x→f t=S.r t):Bh C (S.withR f) gs dst s d x=Bh C S gs dst s d x:=by unfold Bh;rw[dZ h]
theorem ara {T:TypeId}{x:Operand}(h:∀t,t∈bG x→f t=S.r t):Bn C (S.withR f) gs dst T x=Bn C S gs dst T x:=by unfold Bn;rw[afW h]
theorem adn {b:Bool}{x y:Operand}(h:∀t,t∈bG x++bG y→f t=S.r t):xR C (S.withR f) gs dst b x y=xR C S gs dst b x y:=by
 obtain⟨h1,h2⟩:=jy h;unfold xR;rw[dZ h1,dZ h2]
theorem arc {T:TypeId}{x:Operand}(h:∀t,t∈bG x→f t=S.r t):tP C (S.withR f) gs dst T x=tP C S gs dst T x:=by
 unfold tP;rw[vM h,dZ h];simp only[NP,Xb];rfl
theorem aq1 {T:TypeId}{x:Operand}{i:Nat}(h:∀t,t∈bG x→f t=S.r t):Bk C (S.withR f) gs dst T x i=Bk C S gs dst T x i:=by
 unfold Bk;rw[vM h,dZ h];rfl
theorem aq3 {T:TypeId}{x:Operand}{i:Nat}(h:∀t,t∈bG x→f t=S.r t):Bj C (S.withR f) gs dst T x i=Bj C S gs dst T x i:=by unfold Bj;rw[dZ h]
theorem aq6 {T:TypeId}{x i:Operand}(h:∀t,t∈bG x++bG i→f t=S.r t):Bm C (S.withR f) gs dst T x i=Bm C S gs dst T x i:=by
 obtain⟨h1,h2⟩:=jy h;unfold Bm;rw[dZ h1,dZ h2,vM h1];rfl
theorem aq8 {T:TypeId}{x i:Operand}(h:∀t,t∈bG x++bG i→f t=S.r t):Bl C (S.withR f) gs dst T x i=Bl C S gs dst T x i:=by
 obtain⟨h1,h2⟩:=jy h;unfold Bl;rw[dZ h1,dZ h2]
theorem aqZ {x:Operand}{i:Nat}(h:∀t,t∈bG x→f t=S.r t):Bi C (S.withR f) gs dst x i=Bi C S gs dst x i:=by unfold Bi;rw[dZ h]
theorem arf {T:TypeId}{m k:Operand}{ok:Bool}(h:∀t,t∈bG m++bG k→f t=S.r t):Bo C (S.withR f) gs dst T m k ok=Bo C S gs dst T m k ok:=by
 obtain⟨h1,h2⟩:=jy h;unfold Bo;rw[afW h1,dZ h2]
theorem aro {T:TypeId}{x:Operand}{lo hi mx:Option Operand}(h:∀t,t∈bG x++Cd lo++Cd hi→f t=S.r t):Br C (S.withR f) gs dst T x lo hi mx=Br C S gs dst T x lo hi mx:=by
 obtain⟨h1,h3⟩:=jy h;obtain⟨h1,h2⟩:=jy h1;unfold Br;rw[dZ h1];simp only[awG h2,awE h3]
theorem Xw {zs:List Value}{parts:List (Nat×Operand)}(h:∀t,t∈(parts.flatMap fun p=>bG p.2)→f t=S.r t):∀(fs:List Field) (i off:Nat),kQ C (S.withR f) gs zs parts fs i off=kQ C S gs zs parts fs i off
 |[],_,_=>rfl
 |g::fs,i,off=>by
  simp only[kQ,Xw h fs];cases hp:parts.find? (fun p=>Nat.beq p.1 i) with
  |none=>rfl
  |some p=>
   have hu:use C (S.withR f) gs p.2=use C S gs p.2:=dZ fun t ht=>h t (m5.2 ⟨p,yQ hp,ht⟩);simp only[hu]
theorem aqV {T:TypeId}{ps:List (Nat×Operand)}(h:∀t,t∈(ps.flatMap fun p=>bG p.2)→f t=S.r t):Bg C (S.withR f) gs dst T ps=Bg C S gs dst T ps:=by
 unfold Bg;simp only[Xw h];split
 ·rfl
 ·split
  ·split
   ·rename_i x y;rw[dZ (x:=x) fun t ht=>h t (by simp[ht]),dZ (x:=y) fun t ht=>h t (by simp[ht])]
   ·rfl
  ·rfl
 ·rfl
theorem ari {x:Operand}(h:∀t,t∈bG x→f t=S.r t):Bp C (S.withR f) gs dst x=Bp C S gs dst x:=by
 unfold Bp;rw[dZ h];cases x<;>first|rfl|(simp only;rw[B5 (h _ (py.2 rfl))];rfl)
def ng:Op→Bool
 |.move _|.pick ..|.binOp ..|.unOp ..|.convert ..|.load ..|.fieldAddr ..|.field ..|.indexAddr ..|.index ..|.extract ..|.lookup ..|.slice ..|.build ..|.nilCheck _|.makeInterface ..|.call _=>true
 |_=>false
theorem adr {op:Op}(hq:ng op=true)(h:∀t,t∈lM op→f t=S.r t):oM C (S.withR f) gs dst op=oM C S gs dst op:=by
 cases op<;>simp only[ng] at hq<;>simp only[lM] at h<;>simp only[oM]
 case move=>exact adp h
 case pick=>exact ark h
 case binOp=>exact aqT h
 case unOp=>exact arq h
 case convert=>exact aqX h
 case load=>exact arc h
 case fieldAddr=>exact aq1 h
 case field=>exact aq3 h
 case indexAddr=>exact aq6 h
 case index=>exact aq8 h
 case extract=>exact aqZ h
 case lookup=>exact arf h
 case slice=>exact aro h
 case build=>exact aqV h
 case nilCheck=>exact ari h
 case call c=>
  obtain⟨_,h2⟩:=jy h;split
  ·rename_i x T _ ha _;exact ara fun t ht=>h2 t (by rw[ha];simp[ht])
  ·rename_i x y _ ha;exact adn fun t ht=>h2 t (by rw[ha];simpa using ht)
  ·rename_i x y _ ha;exact adn fun t ht=>h2 t (by rw[ha];simpa using ht)
  ·rfl
 all_goals (cases hq;done)
theorem arX {op:Op}(h:∀t,t∈lM op→f t=S.r t)(hq:ng op=true):vz (S.withR f) gs op=vz S gs op:=by
 cases op<;>simp only[ng] at hq<;>simp only[lM] at h<;>simp only[vz]
 case build T ps=>exact rR fun t ht=>h t (by
  obtain⟨x,hx,P9⟩:=m5.1 ht;obtain⟨p,hp,rfl⟩:=dJ.1 hx;exact m5.2 ⟨p,hp,P9⟩)
 case pick c x y=>
  obtain⟨h1,h3⟩:=jy h;obtain⟨h1,h2⟩:=jy h1;refine rR fun t ht=>?_;simp only[wc,WS,lx,dt] at ht;exact ht.elim (h2 t) (h3 t)
 case slice T x lo hi mx=>
  obtain⟨h1,h3⟩:=jy h;obtain⟨h1,h2⟩:=jy h1;exact rR fun t ht=>h1 t (by simpa using ht)
 all_goals first|rfl|(cases hq;done)
theorem arY {op:Op}(h:∀t,t∈lM op→f t=S.r t)(hq:ng op=true):pre C (S.withR f) gs op=pre C S gs op:=by
 have xj:=hq;cases op<;>simp only[ng] at hq<;>simp only[pre,arX h xj]
 case load T x=>simp only[lM] at h;rw[vM h];rfl
 all_goals first|(cases hq;done)|skip
theorem ak4 {ops:Array Oper}{o:Oper}(h:∀t,t∈I6 ops o→f t=S.r t):qd (S.withR f) ops o=qd S ops o:=by
 unfold qd;cases hg:o.guard with
 |none=>rfl
 |some jw=>
  obtain⟨j,want⟩:=jw;simp only;cases ht:(ops[j]?).bind (·.dst) with
  |none=>rfl
  |some t=>
   simp only;have:(S.withR f).r t=S.r t:=h t (by unfold I6;rw[hg];simp[ht]);rw[this]
end
def vA (C:Ctx)(c:Callee):Bool:=
 match c with
 |.value (.func f)=>(match C.sig f with|some s=>s.res.pure|none=>false)
 |_=>false
def DF (C:Ctx)(S:St)(gs:List (Nat×Bool))(dst:Nat)(op:Op):Option (Sh×List PI):=
 match op with
 |.assign x=>
  match gs with
  |[]=>bif C.fr.any (Nat.beq dst)&&(bP S [] [x]).isEmpty then(match qy C S [] dst x with|some r=>bif nB r.1 then some r else none|none=>none) else none
  |_=>none
 |.call c=>
  match oM C S gs dst (.call c) with
  |some r=>bif rQ r.1&&jk gs (some dst) r.2 then some (ji gs r.1,r.2) else none
  |none=>
   bif (bP S gs c.args.toList).isEmpty||vA C c.callee then
    match c.callee with
    |.value (.func f)=>(match pZ C S gs dst f c.args.toList with|some r=>bif jk gs (some dst) r.2.2 then some (ji gs r.2.1,r.2.2) else none|none=>none)
    |.value x=>(match om C S gs dst x c.args.toList with|some r=>bif jk gs (some dst) r.2.2 then some (ji gs r.2.1,r.2.2) else none|none=>none)
    |_=>none
   else none
 |op=>bif ng op&&(pre C S gs op).isEmpty then(match oM C S gs dst op with|some r=>bif rQ r.1&&jk gs (some dst) r.2 then some (ji gs r.1,r.2) else none|none=>none) else none
def DG (C:Ctx)(S:St)(gs:List (Nat×Bool))(op:Op):Option (List PI):=
 match op,gs with
 |.store T x v,[]=>
  match fC S [] x with
  |.eptr ..=>bif (bP S [] [v]).isEmpty then(uI C S T x v).map (·.2) else none
  |_=>none
 |.mapUpdate T m k v,[]=>bif (bP S [] [k,v]).isEmpty then(sX C S T m k v).map (·.2) else none
 |.panic _,[]=>some [.chk (.nt (.con (.bool true)))]
 |_,_=>none
def uN (C:Ctx)(S:St)(ops:Array Oper)(o:Oper):Option (Sh×List PI):=
 match C.yl with
 |some _=>none
 |none=>(qd S ops o).bind fun gs=>
  match o.dst with
  |some dst=>DF C S gs dst o.op
  |none=>(DG C S gs o.op).map fun l=>(.none,l)
def nT (S:St)(o:Oper)(s:Sh):St:=match o.dst with|some d=>S.setR d s|none=>S
section
variable {C:Ctx} {S:St} {f:Nat→Sh} {gs:List (Nat×Bool)} {dst:Nat}
theorem akO (j:Nat):(S.withR f).fz j=(S.fz j).withR f:=by
 unfold St.fz St.withR;simp only;split<;>rfl
theorem YE:∀(js:List Nat) {S:St},(S.withR f).fzs js=(S.fzs js).withR f
 |[],_=>rfl
 |j::js,S=>by
  show((S.withR f).fz j).fzs js=((S.fz j).fzs js).withR f;rw[akO,YE js]
theorem aiE {g:Nat}{xs:List Operand}(h:∀t,t∈xs.flatMap bG→f t=S.r t):
 (match pZ C (S.withR f) gs dst g xs with|some r=>bif jk gs (some dst) r.2.2 then some (ji gs r.2.1,r.2.2) else none|none=>none)=(match pZ C S gs dst g xs with|some r=>bif jk gs (some dst) r.2.2 then some (ji gs r.2.1,r.2.2) else none|none=>none):=by
 have ho:=rR (gs:=gs) h;unfold pZ;generalize (C.sig g).bind (Dc C.fr dst)=q;cases q with
 |none=>rfl
 |some s=>
  simp only[kl];cases s.mode<;>first|rfl|skip
  simp only[ho,YE];rw[Wn (S:=S.fzs (bP S gs xs)) (f:=f) (fun t ht=>by rw[(oq _ S).2];exact h t ht)];cases kJ C (S.fzs (bP S gs xs)) gs xs with
  |none=>rfl
  |some u=>
   simp only[kl];cases Ty.subs u.1 s.args<;>rfl
theorem aiv {x:Operand}{xs:List Operand}(hx:∀t,t∈bG x→f t=S.r t)(h:∀t,t∈xs.flatMap bG→f t=S.r t)(he:(bP S gs xs).isEmpty=true):
 (match om C (S.withR f) gs dst x xs with|some r=>bif jk gs (some dst) r.2.2 then some (ji gs r.2.1,r.2.2) else none|none=>none)=(match om C S gs dst x xs with|some r=>bif jk gs (some dst) r.2.2 then some (ji gs r.2.1,r.2.2) else none|none=>none):=by
 have ho:=rR (gs:=gs) h;have qk:=uy.1 he;unfold om;rw[dZ hx];cases use C S gs x with
 |none=>rfl
 |some y=>
  obtain⟨ty,e⟩:=y;cases ty with
  |fn aa r=>
   simp only;cases mD aa r with
   |some _=>rfl
   |none=>
    simp only[ho,qk,St.fzs,List.foldl_nil,Wn h];cases kJ C S gs xs with
    |none=>rfl
    |some u=>
     simp only[kl];cases Ty.subs u.1 aa<;>rfl
  |_=>rfl
theorem ajC {op:Op}(h:∀t,t∈lM op→f t=S.r t):DF C (S.withR f) gs dst op=DF C S gs dst op:=by
 have other:∀op,(∀t,t∈lM op→f t=S.r t)→(bif ng op&&(pre C (S.withR f) gs op).isEmpty then(match oM C (S.withR f) gs dst op with|some r=>bif rQ r.1&&jk gs (some dst) r.2 then some (ji gs r.1,r.2) else none|none=>none) else none)=
  (bif ng op&&(pre C S gs op).isEmpty then(match oM C S gs dst op with|some r=>bif rQ r.1&&jk gs (some dst) r.2 then some (ji gs r.1,r.2) else none|none=>none) else none):=by
  intro op h;cases hq:ng op with
  |false=>rfl
  |true=>rw[arY h hq,adr hq h]
 unfold DF;split
 ·rename_i x;simp only[lM] at h;rw[adp h,rR (xs:=[x]) fun t ht=>h t (by simpa using ht)]
 ·rename_i c;have h':=h;simp only[lM] at h';obtain⟨h1,h2⟩:=jy h';rw[adr (op:=.call c) rfl h,rR h2];split
  ·rfl
  ·cases he:(bP S gs c.args.toList).isEmpty||vA C c.callee with
   |false=>rfl
   |true=>
    simp only[cond_true];split
    ·exact aiE h2
    ·rename_i x hx hc;have hp:vA C c.callee=false:=by
         rw[hc];unfold vA;cases x<;>first|rfl|exact absurd rfl (hx _)
     exact aiv (fun t ht=>h1 t (by rw[hc];exact ht)) h2 (by rw[hp,sH] at he;exact he)
    ·rfl
 ·exact other _ h
theorem ajD {op:Op}(h:∀t,t∈lM op→f t=S.r t):DG C (S.withR f) gs op=DG C S gs op:=by
 unfold DG;split
 ·rename_i T x v;simp only[lM] at h;obtain⟨h1,h2⟩:=jy h;rw[vM h1,rR (xs:=[v]) fun t ht=>h2 t (by simpa using ht)];split
  ·rename_i j ver size off gN;cases(bP S [] [v]).isEmpty with
   |false=>rfl
   |true=>
    simp only[cond_true];unfold uI;rw[vM h1,dZ h2,gN];simp only;have eo:(S.withR f).o=S.o:=rfl;have ev:(S.withR f).ver=S.ver:=rfl;rw[eo,ev];cases C.P.info? T with
    |none=>rfl
    |some inf=>
     simp only;cases Nat.beq ver (S.ver j) with
     |false=>rfl
     |true=>
      simp only[cond_true];cases S.o j with
      |row T' e0=>
       cases use C S [] v with
       |none=>cases e0<;>rfl
       |some y=>
        obtain⟨t,e⟩:=y;cases e0<;>simp only<;>(generalize (_&&_:Bool)=b;cases b<;>rfl)
      |_=>rfl
  ·rfl
 ·rename_i T m k v;simp only[lM] at h;obtain⟨h1,h3⟩:=jy h;obtain⟨h1,h2⟩:=jy h1
  rw[rR (xs:=[k,v]) fun t ht=>by
   simp only[wc,WS,lx,dt] at ht;exact ht.elim (h2 t) (h3 t)]
  cases(bP S [] [k,v]).isEmpty with
  |false=>rfl
  |true=>
   simp only[cond_true];unfold sX;rw[vM h1,dZ h2,dZ h3];have eo:(S.withR f).o=S.o:=rfl;have ev:(S.withR f).ver=S.ver:=rfl;rw[eo,ev];cases C.P.underlying T with
   |none=>rfl
   |some desc=>
    cases desc with
    |map K E=>
     cases fC S [] m with
     |obj j ver=>
      simp only;cases Nat.beq ver (S.ver j) with
      |false=>rfl
      |true=>
       simp only[cond_true];cases S.o j with
       |mp kt et=>
        cases use C S [] k with
        |none=>rfl
        |some y=>
         cases use C S [] v with
         |none=>rfl
         |some z=>
          obtain⟨tk,ek⟩:=y;obtain⟨tv,ev⟩:=z;simp only;generalize (_&&_:Bool)=b;cases b<;>rfl
       |_=>rfl
     |_=>rfl
    |_=>rfl
 ·rfl
 ·rfl
theorem ajF {ops:Array Oper}{o:Oper}(h:∀t,t∈lM o.op++I6 ops o→f t=S.r t):uN C (S.withR f) ops o=uN C S ops o:=by
 obtain⟨h1,h2⟩:=jy h;unfold uN;rw[ak4 h2];split
 ·rfl
 ·cases qd S ops o with
  |none=>rfl
  |some gs=>
   simp only[kl];split
   ·exact ajC h1
   ·rw[ajD h1]
theorem asZ {S:St}{t:Nat}{s:Sh}(h:S.r t=s)(hs:nB s=true):yo S t t=some (S,[]):=by
 unfold yo;rw[h];cases s<;>first|rfl|cases hs
theorem ajE {ops:Array Oper}{o:Oper}{q:Sh×List PI}(h:uN C S ops o=some q):pV C S ops o=some (nT S o q.1,q.2):=by
 unfold uN at h;split at h
 case h_1=>cases h
 rename_i kD;simp only[av] at h;obtain⟨gs,dN,h⟩:=h;have hY:Ad C S ops o=none:=by
  unfold Ad;rw[kD];split<;>first|rfl|(rename_i hx;cases hx;done)|(rename_i hx _;cases hx;done)
 have fin:∀{S':St},pre C S gs o.op++qB C S gs o=[]→core C S gs o=some (S',q.2)→jQ C (post C S' o) S'=some (S',[])→jk gs o.dst q.2=true→pV C S ops o=some (S',q.2):=by
  intro S' h1 h2 h3 h4;unfold pV Ac C9;rw[hY,dN];simp only[kl,h1,jQ,h2,h3,h4,cond_true,uA,lx]
 cases hd:o.dst with
 |some dst=>
  simp only[hd] at h;have cn:nT S o q.1=S.setR dst q.1:=by unfold nT;rw[hd]
  rw[cn];unfold DF at h;split at h
  ·rename_i x bR;split at h
   case h_2=>cases h
   cases hb:(C.fr.any (Nat.beq dst)&&(bP S [] [x]).isEmpty)<;>simp only[hb,cond_true,cond_false] at h
   ·cases h
   simp only[aq] at hb;split at h
   case h_2=>cases h
   rename_i r hr;cases Zk:nB r.1<;>simp only[Zk,cond_true,cond_false] at h
   ·cases h
   cases h;have he:=uy.1 hb.2;refine fin ?_ ?_ ?_ rfl
   ·rw[bR];unfold qB;rw[bR,hd];simp only[hb.1,he,cond_true,pre,vz,G3,lx]
   ·unfold core;rw[hd];simp only[bR,oM,hb.1,cond_true,hr]
   ·unfold post;rw[bR,hd];simp only[jQ,Gh.run];rw[asZ (s:=q.1) (by simp[St.setR,aK]) Zk];rfl
  ·rename_i c bR;have Pz:pre C S gs o.op++qB C S gs o=[]:=by
        rw[bR];unfold qB;rw[bR];simp[pre,vz]
   have kA:∀S':St,jQ C (post C S' o) S'=some (S',[]):=fun S'=>by
        unfold post;rw[bR];rfl
   split at h
   ·rename_i r hr;cases hb:(rQ r.1&&jk gs (some dst) r.2)<;>simp only[hb,cond_true,cond_false] at h
    ·cases h
    cases h;simp only[aq] at hb;refine fin Pz ?_ (kA _) (by rw[hd];exact hb.2);unfold core;rw[hd];simp only[bR,hr,hb.1,cond_true]
   ·rename_i hr;cases he:(bP S gs c.args.toList).isEmpty||vA C c.callee<;>simp only[he,cond_true,cond_false] at h
    ·cases h
    have sfz:∀b:Bool,(bP S gs c.args.toList).isEmpty=true∨b=true→(bif b then S else S.fzs (bP S gs c.args.toList))=S:=fun b hb=>by
     rcases hb with hb|rfl
     ·rw[uy.1 hb];cases b<;>rfl
     ·rfl
    split at h
    ·rename_i f hc;split at h
     case h_2=>cases h
     rename_i r dO;cases hb:jk gs (some dst) r.2.2<;>simp only[hb,cond_true,cond_false] at h
     ·cases h
     cases h;refine fin Pz ?_ (kA _) (by rw[hd];exact hb);have hS:r.1=S:=by
      simp only[pZ,av] at dO;obtain⟨s,⟨s0,hs,nw⟩,dO⟩:=dO;split at dO
      case h_2=>cases dO
      simp only[av] at dO;obtain⟨u,hu,dO⟩:=dO;cases bN:Ty.subs u.1 s.args<;>simp only[bN,cond_true,cond_false] at dO
      ·cases dO
      cases dO;refine sfz _ ?_;have Ey:s.res=s0.res:=by
       unfold Dc at nw;split at nw
       ·revert nw
        generalize (_&&_:Bool)=b;intro nw;cases b<;>simp only[cond_true,cond_false,aT] at nw<;>rw[←nw]
       ·simp only[aT] at nw;rw[←nw]
      rw[hc] at he;simp only[vA,hs,gF] at he;rw[Ey];exact he
     unfold core;rw[hd];simp only[bR,hr,hc,dO,hS]
    ·rename_i x JM hc;split at h
     case h_2=>cases h
     rename_i r dO;cases hb:jk gs (some dst) r.2.2<;>simp only[hb,cond_true,cond_false] at h
     ·cases h
     cases h;refine fin Pz ?_ (kA _) (by rw[hd];exact hb);have hS:r.1=S:=by
      unfold om at dO;split at dO
      case h_2=>cases dO
      rename_i aa r0 e PY;split at dO
      case h_1=>cases dO
      simp only[av] at dO;obtain⟨u,hu,dO⟩:=dO;cases bN:Ty.subs u.1 aa<;>simp only[bN,cond_true,cond_false] at dO
      ·cases dO
      cases dO;refine sfz _ (.inl ?_);have hp:vA C c.callee=false:=by
       rw[hc];unfold vA;cases x<;>first|rfl|exact absurd rfl (JM _)
      rw[hp,sH] at he;exact he
     unfold core;rw[hd];simp only[bR,hr,hc];cases x with
     |func f=>exact absurd rfl (JM f)
     |_=>simp only[dO,hS]
    ·cases h
  ·rename_i ZQ cX;cases hb:(ng o.op&&(pre C S gs o.op).isEmpty)<;>simp only[hb,cond_true,cond_false] at h
   ·cases h
   simp only[aq] at hb;split at h
   case h_2=>cases h
   rename_i r hr;cases de:(rQ r.1&&jk gs (some dst) r.2)<;>simp only[de,cond_true,cond_false] at h
   ·cases h
   cases h;simp only[aq] at de;have da:qB C S gs o=[]:=by
        unfold qB;split
        ·rename_i x t e _;exact absurd e (ZQ x)
        ·rfl
   have kA:∀S':St,jQ C (post C S' o) S'=some (S',[]):=fun S'=>by
        have:post C S' o=[]:=by
         unfold post;split
         ·rename_i x t e _;exact absurd e (ZQ x)
         ·rename_i T t e _;rw[e] at hb;simp[ng] at hb
         ·rename_i T x v e;rw[e] at hb;simp[ng] at hb
         ·rfl
        rw[this];rfl
   refine fin (by rw[da,uy.1 hb.2];rfl) ?_ (kA _) (by rw[hd];exact de.2);unfold core;rw[hd];simp only[hr,de.1,cond_true]
 |none=>
  simp only[hd,aC] at h;obtain⟨l,h,rfl⟩:=h;have cn:nT S o (.none:Sh)=S:=by unfold nT;rw[hd]
  show pV C S ops o=some (nT S o .none,l);rw[cn];have da:qB C S gs o=[]:=by unfold qB;rw[hd];split<;>first|rfl|(rename_i hx;cases hx)
  unfold DG at h;split at h
  ·rename_i T x v bR;split at h
   case h_2=>cases h
   rename_i j ver size off gN;cases he:(bP S [] [v]).isEmpty<;>simp only[he,cond_true,cond_false] at h
   ·cases h
   simp only[aC] at h;obtain⟨r,hr,rfl⟩:=h;have hS:r.1=S:=by
        unfold uI at hr;split at hr
        case h_2=>cases hr
        rw[gN] at hr;simp only at hr;cases hv:Nat.beq ver (S.ver j)<;>simp only[hv,cond_true,cond_false] at hr
        ·cases hr
        split at hr
        ·revert hr;generalize (_&&_:Bool)=b;intro hr;cases b<;>simp only[cond_true,cond_false] at hr<;>cases hr;rfl
        ·revert hr;generalize (_&&_:Bool)=b;intro hr;cases b<;>simp only[cond_true,cond_false] at hr<;>cases hr;rfl
        ·cases hr
   refine fin ?_ ?_ ?_ rfl
   ·rw[da,bR];simp only[pre,vz,gN,uy.1 he,G3,lx]
   ·unfold core;rw[hd];simp only[bR,hr];rw[←hS]
   ·unfold post;rw[bR];simp only[gN];rfl
  ·rename_i T m k v bR;cases he:(bP S [] [k,v]).isEmpty<;>simp only[he,cond_true,cond_false] at h
   ·cases h
   simp only[aC] at h;obtain⟨r,hr,rfl⟩:=h;have hS:r.1=S:=by
        unfold sX at hr;split at hr
        ·rename_i K _ j ver _ _;cases hv:Nat.beq ver (S.ver j)<;>simp only[hv,cond_true,cond_false] at hr
         ·cases hr
         split at hr
         ·revert hr;generalize (_&&_:Bool)=b;intro hr;cases b<;>simp only[cond_true,cond_false] at hr<;>cases hr;rfl
         ·cases hr
        ·cases hr
   refine fin ?_ ?_ ?_ rfl
   ·rw[da,bR];simp only[pre,vz,uy.1 he,G3,lx]
   ·unfold core;rw[hd];simp only[bR,hr];rw[←hS]
   ·unfold post;rw[bR];rfl
  ·rename_i x bR;cases h;refine fin ?_ ?_ ?_ rfl
   ·rw[da,bR];rfl
   ·unfold core;rw[hd];simp only[bR]
   ·unfold post;rw[bR];rfl
  ·cases h
end
def fB (ops:Array Oper)(shs:List Sh)(l:List Nat)(f:Nat→Sh):Nat→Sh:=
 l.foldl (fun f i=>match(ops[i]?).bind (·.dst) with|some d=>bV f d (shs.getD i .none)|none=>f) f
def Ao (C:Ctx)(S:St)(ops:Array Oper):Nat→Option (List (Sh×List PI))
 |0=>some []
 |k+1=>(Ao C S ops k).bind fun q=>match ops[k]? with
  |some o=>(uN C (S.withR (fB ops (q.map (·.1)) (List.range k) S.r)) ops o).map fun r=>q++[r]
  |none=>none
def dB (ops:Array Oper):Nat→List Nat
 |0=>[]
 |k+1=>dB ops k++[match ops[k]? with
  |some o=>o.after.toList.foldr (fun e m=>bif Region.binds .any e then Nat.lor (Nat.lor (dK e.on) ((dB ops k).getD e.on 0)) m else m) 0
  |none=>0]
def aeQ (ops:Array Oper)(o:Oper):List Nat:=lM o.op++I6 ops o
def Yx (ops:Array Oper)(nc:List (List Nat))(clo:List Nat)(i:Nat):Bool:=
 match ops[i]? with
 |some o=>(nc.getD i []).all (aw (clo.getD i 0))&&(o.after.toList.all fun e=> !Region.binds .any e||Nat.blt e.on i)&&
   (aeQ ops o).all fun t=>(List.range ops.size).all fun j=>match(ops[j]?).bind (·.dst) with
     |some d=> !Nat.beq d t||((Nat.blt j i&&aw (clo.getD i 0) j)||aw (clo.getD j 0) i)
     |none=>true
 |none=>false
def I0 (ops:Array Oper)(i:Nat):Bool:=match ops[i]? with|some o=>o.after.toList.all fun e=> !Region.binds .any e||Nat.blt e.on i|none=>false
def DH (ops:Array Oper)(nc:List (List Nat))(clo:List Nat)(m:Nat):Bool:=(List.range m).all (Yx ops nc clo)&&(List.range ops.size).all (I0 ops)
def pg (clo:List Nat):Nat→Nat
 |0=>0
 |k+1=>bif (List.range k).all (aw (clo.getD k 0)) then pg clo k else k+1
theorem afC (clo:List Nat):∀k,pg clo k≤k
 |0=>bl _
 |k+1=>by
  unfold pg;cases(List.range k).all (aw (clo.getD k 0)) with
  |true=>exact Nat.le_succ_of_le (afC clo k)
  |false=>exact bl _
theorem afB (clo:List Nat):∀k i,pg clo k≤i→i<k→∀j,j<i→aw (clo.getD i 0) j=true
 |0,i,_,h=>by omega
 |k+1,i,h1,h2=>by
  unfold pg at h1;cases hb:(List.range k).all (aw (clo.getD k 0)) with
  |true=>
   rw[hb] at h1;by_cases e:i=k
   ·subst e;exact fun j hj=>bK.1 hb j (bY.2 hj)
   ·exact afB clo k i h1 (by omega)
  |false=>rw[hb] at h1;simp only[cond_false] at h1;omega
def Yy (C:Ctx)(ops:Array Oper)(S:St):Option (St×List PI):=
 (Ao C S ops (pg (dB ops ops.size) ops.size)).bind fun q=>
    bif DH ops (qw (q.map (·.2)) (pg (dB ops ops.size) ops.size)) (dB ops ops.size) (pg (dB ops ops.size) ops.size) then
     (og C ops (List.range' (pg (dB ops ops.size) ops.size) (ops.size-pg (dB ops ops.size) ops.size)) (S.withR (fB ops (q.map (·.1)) (List.range (pg (dB ops ops.size) ops.size)) S.r))).map fun r=>(r.1,(q.map (·.2)).flatten++r.2)
    else none
theorem LS (ops:Array Oper)(shs:List Sh)(i:Nat)(l:List Nat)(f:Nat→Sh):fB ops shs (i::l) f=fB ops shs l (match(ops[i]?).bind (·.dst) with|some d=>bV f d (shs.getD i .none)|none=>f):=rfl
theorem Gz {ops:Array Oper}{shs:List Sh}{t:Nat}:∀{l:List Nat} {f:Nat→Sh},(∀i,i∈l→(ops[i]?).bind (·.dst)≠some t)→fB ops shs l f t=f t
 |[],_,_=>rfl
 |i::l,f,h=>by
  rw[LS,Gz fun j hj=>h j (di _ hj)];have:=h i (du ..);cases hd:(ops[i]?).bind (·.dst) with
  |none=>rfl
  |some d=>exact br _ _ (fun e=>this (by rw[hd,e]))
def MC (ops:Array Oper):Prop:=∀(i j t:Nat),(ops[i]?).bind (·.dst)=some t→(ops[j]?).bind (·.dst)=some t→i=j
theorem LR {ops:Array Oper}(ho:MC ops){shs:List Sh}{t i:Nat}(ht:(ops[i]?).bind (·.dst)=some t):∀{l:List Nat} {f:Nat→Sh},i∈l→fB ops shs l f t=shs.getD i .none
 |[],_,h=>nomatch h
 |j::l,f,h=>by
  rw[LS];by_cases hl:i∈l
  ·exact LR ho ht hl
  ·have e:i=j:=(cC.1 h).resolve_right hl;subst e;rw[Gz fun k hk e=>hl (by rw[ho i k t ht e];exact hk),ht];exact aK _ _ _
theorem afm {ops:Array Oper}(ho:MC ops){shs TC:List Sh}{l m:List Nat}{f:Nat→Sh}{t:Nat}(h1:∀i,(ops[i]?).bind (·.dst)=some t→(i∈l↔i∈m))(h2:∀i,i∈l→(ops[i]?).bind (·.dst)=some t→shs.getD i .none=TC.getD i .none):fB ops shs l f t=fB ops TC m f t:=by
 by_cases hh:∃i,i∈l∧(ops[i]?).bind (·.dst)=some t
 ·obtain⟨i,hi,ht⟩:=hh;rw[LR ho ht hi,LR ho ht ((h1 i ht).1 hi),h2 i hi ht]
 ·rw[Gz fun i hi e=>hh ⟨i,hi,e⟩,Gz fun i hi e=>hh ⟨i,(h1 i e).2 hi,e⟩]
theorem aqR {ops:Array Oper}(h:(ops.toList.filterMap (·.dst)).Nodup):MC ops:=by
 intro i j t hi hj;rw[av] at hi hj;obtain⟨oi,h1,h2⟩:=hi;obtain⟨oj,h3,h4⟩:=hj;by_cases e:i=j
 ·exact e
 ·exact(wD.dst_once h h1 h3 h2 h4 e).elim
theorem On {C:Ctx}{S:St}{ops:Array Oper}:∀{k:Nat} {q:List (Sh×List PI)},Ao C S ops k=some q→q.length=k∧∀i,i<k→∃o,ops[i]?=some o∧
 uN C (S.withR (fB ops (q.map (·.1)) (List.range i) S.r)) ops o=some ((q.map (·.1)).getD i .none,(q.map (·.2)).getD i [])
 |0,q,h=>by simp only[Ao,aT] at h;subst h;exact⟨rfl,fun i hi=>by omega⟩
 |k+1,q,h=>by
  simp only[Ao,av] at h;obtain⟨p,hp,h⟩:=h;split at h
  case h_2=>cases h
  rename_i o ho;simp only[aC] at h;obtain⟨r,hr,rfl⟩:=h;obtain⟨l1,aP⟩:=On hp;have same:∀i,i≤k→fB ops ((p++[r]).map (·.1)) (List.range i) S.r=fB ops (p.map (·.1)) (List.range i) S.r:=by
   intro i hi;have key:∀(l:List Nat) (f:Nat→Sh),(∀j,j∈l→j<p.length)→fB ops ((p++[r]).map (·.1)) l f=fB ops (p.map (·.1)) l f:=by
    intro l
    induction l with
    |nil=>intro f _;rfl
    |cons j l ih=>
     intro f hl;have hj:=hl j (du ..);have e:((p++[r]).map (·.1)).getD j .none=(p.map (·.1)).getD j .none:=by
       rw[lz,aJ,kN (by simpa using hj),←aJ]
     rw[LS,LS,e,ih _ fun m hm=>hl m (di _ hm)]
   exact key _ _ fun j hj=>by have:=bY.1 hj;omega
  refine⟨by simp[l1],fun i hi=>?_⟩;by_cases e:i=k
  ·subst e;refine⟨o,ho,?_⟩;rw[same i (bl _),hr];have e1:((p++[r]).map (·.1)).getD i .none=r.1:=by
    rw[lz,aJ,ly (by simp[l1])];simp[l1]
   have e2:((p++[r]).map (·.2)).getD i []=r.2:=by
    rw[lz,aJ,ly (by simp[l1])];simp[l1]
   rw[e1,e2]
  ·obtain⟨o',h1,h2⟩:=aP i (by omega);refine⟨o',h1,?_⟩;rw[same i (by omega),h2];have:i<p.length:=by omega
   simp only[lz,aJ];rw[kN (by simpa using this),kN (by simpa using this)]
theorem IL (ops:Array Oper):∀k,(dB ops k).length=k
 |0=>rfl
 |k+1=>by simp[dB,IL ops k]
theorem XN (ops:Array Oper){k m i:Nat}(h:i<k)(hm:k≤m):(dB ops m).getD i 0=(dB ops k).getD i 0:=by
 induction m with
 |zero=>omega
 |succ m ih=>
  by_cases e:k=m+1
  ·rw[e]
  ·rw[←ih (by omega)];simp only[dB,aJ];rw[kN (by rw[IL];omega)]
theorem IM {ops:Array Oper}{N i m:Nat}{o:Oper}(hi:i<N)(ho:ops[i]?=some o)(af:(o.after.toList.all fun e=> !Region.binds .any e||Nat.blt e.on i)=true)(h:aw ((dB ops N).getD i 0) m=true):
 ∃e,e∈o.after.toList∧Region.binds .any e=true∧(m=e.on∨aw ((dB ops N).getD e.on 0) m=true):=by
 rw[XN ops (k:=i+1) (by omega) (by omega)] at h
 have e1:(dB ops (i+1)).getD i 0=o.after.toList.foldr (fun e m=>bif Region.binds .any e then Nat.lor (Nat.lor (dK e.on) ((dB ops i).getD e.on 0)) m else m) 0:=by
  simp only[dB,aJ];rw[ly (by rw[IL];exact bl _),IL];simp[ho]
 rw[e1] at h;have aP:=bK.1 af;generalize o.after.toList=l at h aP
 induction l with
 |nil=>rw[sU] at h;simp at h
 |cons e l ih=>
  simp only[List.foldr_cons] at h;cases hb:Region.binds .any e<;>rw[hb] at h<;>simp only[cond_true,cond_false] at h
  ·obtain⟨e',h1,h2⟩:=ih h (fun x hx=>aP x (di _ hx));exact⟨e',di _ h1,h2⟩
  ·rw[fb,fb,gF,gF] at h;have qm:e.on<i:=by
        have:=aP e (du ..);rw[hb] at this;simpa [iJ] using this
   rcases h with(h|h)|h
   ·refine⟨e,du ..,hb,.inl ?_⟩;have:=je 0 e.on m;have z:aw 0 m=false:=by rw[sU];simp
    rw[fb,z,qT,qT,h] at this;exact(cR this.symm).symm
   ·refine⟨e,du ..,hb,.inr ?_⟩;rw[XN ops qm (by omega)];exact h
   ·obtain⟨e',h1,h2⟩:=ih h (fun x hx=>aP x (di _ hx));exact⟨e',di _ h1,h2⟩
section
variable {C:Ctx} {S:St} {ρ:Env} {σ:Im} {own:Nat→Option Nat} {hv:Nat→Value} {w0:World} {σ0:Base} {A:Nat→Prop} {a:Act} {w:World} {n:Nat} {ids:List Nat} {Φ:aR}
theorem aeR {ops:Array Oper}{listed:Array Bool}{E:Nat}(aI:listed.size=ops.size)(hl:∀i,listed.getD i false=aw E i)(i:Nat):i∈Region.ready .any ops listed↔i∈lY ops E:=by
 unfold Region.ready lY;simp only[dj,bY];refine and_congr_right fun hi=>?_;have h1:listed.getD i true=aw E i:=by
  rw[←hl i];simp only[dT];rw[fF (by omega)];rfl
 have h2:ops[i]?=some ops[i]:=fF hi;rw[h1,h2];simp only[km,jK,←Ww,hl]
def vL (ops:Array Oper)(E:Nat):Nat→Prop:=fun t=>∃i o,aw E i=true∧ops[i]?=some o∧o.dst=some t
def sA (ops:Array Oper)(E:Nat):Nat:=((List.range ops.size).filter fun i=> !aw E i).length
theorem awy {ops:Array Oper}{E i:Nat}(hi:i<ops.size)(hb:aw E i=false):sA ops E=sA ops (Nat.lor E (dK i))+1:=by
 unfold sA;obtain⟨l1,l2,hl⟩:=WN (bY.2 hi);have bq:=Mw (n:=ops.size);rw[hl,Cu] at bq;obtain⟨_,h2,h3⟩:=bq;rw[m6] at h2;have g1:∀j,j∈l1→j≠i:=fun j hj=>h3 j hj i (du ..);have g2:∀j,j∈l2→j≠i:=fun j hj e=>h2.1 (e▸hj)
 have c:∀l:List Nat,(∀j,j∈l→j≠i)→(l.filter fun j=> !aw (Nat.lor E (dK i)) j)=l.filter fun j=> !aw E j:=by
  intro l hl;apply List.filter_congr;intro j hj;rw[je,ew (fun e=>hl j hj e.symm),sH]
 have df:aw (Nat.lor E (dK i)) i=true:=by rw[je,gH,nX]
 rw[hl];simp only[yM,List.filter_cons,c l1 g1,c l2 g2,hb,df,sG,Bool.not_false,if_true,v5,if_false,kg,nZ];omega
theorem ajH {rd:Option Nat}(hC:CtxOK C σ0)(ba:dp C)(hΦ:dc C Φ)(hY:pD C Φ w0 σ0){a0:Act}(Pf:a0.tmps.size=n){ops:Array Oper}(aD:sl n ops=true)(fj:Ar ops=true){m:Nat}(hm:m≤ops.size){q:List (Sh×List PI)}(hq:Ao C S ops m=some q)
 (u7:DH ops (qw (q.map (·.2)) m) (dB ops ops.size) m=true) (AU:∀i,m≤i→i<ops.size→∀j,j<i→aw ((dB ops ops.size).getD i 0) j=true) {Q:Exit→Act→World→Prop} {ρ':Env}
 (hK:∀listed a' w',listed.size=ops.size→(∀i,listed.getD i false=decide (i<m))→SameBut (ri ops) a0 a'→Good C w0 σ0 (S.withR (fB ops (q.map (·.1)) (List.range m) S.r)) ρ' (lZ ops (List.range m)) a' w'→wpAnyIn (FR rd) 0 C.P .any ops Q (ops.size-m) listed a' w'):
 ∀(k E:Nat) (listed:Array Bool) (ρ:Env) (a:Act) (w:World),sA ops E=k→(∀j,aw E j=true→j<m)→(∀j,j<ops.size→aw E j=true→∀m,aw ((dB ops ops.size).getD j 0) m=true→aw E m=true)→listed.size=ops.size→(∀i,listed.getD i false=aw E i)→SameBut (ri ops) a0 a→
  Good C w0 σ0 (S.withR (fB ops (q.map (·.1)) ((List.range m).filter (aw E)) S.r)) ρ (vL ops E) a w→PI.runs Φ (eC (q.map (·.2)) (List.range m) E) ρ=some ρ'→wpAnyIn (FR rd) 0 C.P .any ops Q k listed a w:=by
 have JP:=aD;simp only[sl,aq] at aD;have bq:=mI aD.1;have Pt:=aqR bq;obtain⟨hlen,aP⟩:=On hq;unfold DH at u7;rw[aq] at u7
 have DT:∀i,i<ops.size→∀o,ops[i]?=some o→(o.after.toList.all fun e=> !Region.binds .any e||Nat.blt e.on i)=true:=by
  intro i hi o ho;have:=bK.1 u7.2 i (bY.2 hi);unfold I0 at this;rw[ho] at this;exact this
 have am3:∀i,i<m→∀o,ops[i]?=some o→((qw (q.map (·.2)) m).getD i []).all (aw ((dB ops ops.size).getD i 0))=true∧
  ∀t,t∈aeQ ops o→∀j,j<ops.size→(ops[j]?).bind (·.dst)=some t→(j<i∧aw ((dB ops ops.size).getD i 0) j=true)∨aw ((dB ops ops.size).getD j 0) i=true:=by
  intro i hi o ho;have:=bK.1 u7.1 i (bY.2 hi);unfold Yx at this;rw[ho] at this;simp only[aq] at this;refine⟨this.1.1,fun t ht j hj hd=>?_⟩;have:=bK.1 (bK.1 this.2 t ht) j (bY.2 hj);rw[hd] at this;simp only[gH,sG,qT,gF,aq,iJ] at this;exact this
 have Xe:∀(k E:Nat) (listed:Array Bool) (ρ:Env) (a:Act) (w:World),(∀i,i<m→aw E i=true)→sA ops E=k→(∀j,aw E j=true→j<m)→listed.size=ops.size→(∀i,listed.getD i false=aw E i)→SameBut (ri ops) a0 a→
  Good C w0 σ0 (S.withR (fB ops (q.map (·.1)) ((List.range m).filter (aw E)) S.r)) ρ (vL ops E) a w→PI.runs Φ (eC (q.map (·.2)) (List.range m) E) ρ=some ρ'→wpAnyIn (FR rd) 0 C.P .any ops Q k listed a w:=by
  intro k E listed ρ a w ku hk xf aI hl hn hg ak;have hb:∀i,aw E i=decide (i<m):=by
   intro i;by_cases h:i<m
   ·rw[ku i h,decide_eq_true h]
   ·rw[decide_eq_false h];cases hb:aw E i with
    |false=>rfl
    |true=>exact absurd (xf i hb) h
  have OV:eC (q.map (·.2)) (List.range m) E=[]:=by
   unfold eC;rw[agl];intro i hi;rw[ku i (bY.1 hi)];rfl
  rw[OV] at ak;simp only[PI.runs,aT] at ak;subst ak;have alO:sA ops E=ops.size-m:=by
   unfold sA
   have key:∀N,m≤N→((List.range N).filter fun i=> !aw E i).length=N-m:=by
        intro N
        induction N with
        |zero=>intro _;simp
        |succ N ih=>
         intro hN;rw[G5,yM,kg];by_cases h:m≤N
         ·rw[ih h];simp[hb N,Nat.not_lt.2 h];omega
         ·have:m=N+1:=by omega
          have e:(List.range N).filter (fun i=> !aw E i)=[]:=by
           rw[WR];intro i hi;rw[ku i (by have:=bY.1 hi;omega)];simp
          have hN':aw E N=true:=ku N (by omega);rw[e];simp[hN'];omega
   exact key _ hm
  have ef:(List.range m).filter (aw E)=List.range m:=Mq.2 fun i hi=>ku i (bY.1 hi);rw[ef] at hg;have tE:vL ops E=lZ ops (List.range m):=by
   funext t;apply propext;constructor
   ·rintro⟨i,o,h1,h2,h3⟩;exact⟨i,o,bY.2 (xf i h1),h2,h3⟩
   ·rintro⟨i,o,h1,h2,h3⟩;exact⟨i,o,ku i (bY.1 h1),h2,h3⟩
  rw[tE] at hg;rw[←hk,alO];exact hK listed a w aI (fun i=>by rw[hl i,hb i]) hn hg
 intro k
 induction k with
 |zero=>
  intro E listed ρ a w hk xf Jo aI hl hn hg ak;refine Xe 0 E listed ρ a w (fun i hi=>?_) hk xf aI hl hn hg ak;cases hb:aw E i with
  |true=>rfl
  |false=>
   have:i∈(List.range ops.size).filter fun i=> !aw E i:=dj.2 ⟨bY.2 (by omega),by rw[hb];rfl⟩;unfold sA at hk;rw[agm.1 hk] at this;cases this
 |succ k ih=>
  intro E listed ρ a w hk xf Jo aI hl hn hg ak;by_cases ku:∀i,i<m→aw E i=true
  ·exact Xe (k+1) E listed ρ a w ku hk xf aI hl hn hg ak
  refine⟨fun he=>?_,fun i hi=>?_⟩
  ·
   obtain⟨i,hi,tB⟩:∃i,(i<m∧aw E i=false)∧∀j,j<i→aw E j=true:=by
        have hex:∃i,i<m∧aw E i=false:=by
         refine v7 fun dD=>ku fun i hi=>?_;cases hb:aw E i with
         |true=>rfl
         |false=>exact absurd ⟨i,hi,hb⟩ dD
        obtain⟨i,hi⟩:=hex
        induction i using Nat.strongRecOn with
        |ind i mC=>
         by_cases hh:∃j,j<i∧aw E j=false
         ·obtain⟨j,hj,hb⟩:=hh;exact mC j hj ⟨by omega,hb⟩
         ·refine⟨i,hi,fun j hj=>?_⟩;cases hb:aw E j with
          |true=>rfl
          |false=>exact absurd ⟨j,hj,hb⟩ hh
   have tw:i<ops.size:=by omega
   have ho:ops[i]?=some ops[i]:=fF tw;have cP:i∈lY ops E:=by
        unfold lY;simp only[dj,bY,aq,iy,ho];refine⟨tw,hi.2,?_⟩;rw[bK];intro e gM;have:=bK.1 (DT i tw _ ho) e gM;cases hb:Region.binds .any e with
        |false=>rfl
        |true=>
         rw[hb] at this;simp only[sG,qT,iJ] at this;rw[tB _ this];rfl
   rw[←aeR aI hl,he] at cP;cases cP
  ·rw[aeR aI hl] at hi;unfold lY at hi;simp only[dj,bY,aq,iy] at hi;obtain⟨bC,dx,uV⟩:=hi;have ZU:ops[i]?=some ops[i]:=fF bC;generalize ops[i]=o at ZU;have ho:=ZU;rw[ho] at uV;simp only at uV;have o2:=DT i bC o ho;have Ay:∀m,aw ((dB ops ops.size).getD i 0) m=true→aw E m=true:=by
        intro m hm;obtain⟨e,jR,kV,OU⟩:=IM bC ho o2 hm;have hE:aw E e.on=true:=by
         have:=bK.1 uV e jR
         rwa [kV,sG,qT] at this
        rcases OU with rfl|OU
        ·exact hE
        ·have qm:e.on<i:=by
          have:=bK.1 o2 e jR;rw[kV] at this;simpa [iJ] using this
         exact Jo e.on (by omega) hE m OU
   have kX:i<m:=by
        refine v7 fun dD=>ku fun j hj=>?_;exact Ay j (AU i (by omega) bC j (by omega))
   obtain⟨o',ed,jS⟩:=aP i kX;rw[ho] at ed;cases ed;obtain⟨o1,o3⟩:=am3 i kX o ho;have cX:((qw (q.map (·.2)) m).getD i []).all (aw E)=true:=by
        rw[bK] at o1 ⊢;exact fun m hm=>Ay m (o1 m hm)
   have alR:uN C (S.withR (fB ops (q.map (·.1)) ((List.range m).filter (aw E)) S.r)) ops o=some ((q.map (·.1)).getD i .none,(q.map (·.2)).getD i []):=by
        rw[←jS];refine ajF (S:=S.withR (fB ops (q.map (·.1)) (List.range i) S.r)) fun t ht=>?_;refine afm Pt (fun j hj=>?_) (fun _ _ _=>rfl);have eR:j<ops.size:=by
         rw[av] at hj;obtain⟨oj,h1,_⟩:=hj;exact(gp.1 h1).1
        rw[dj,bY,bY];rcases o3 t ht j eR hj with⟨h1,h2⟩|h1
        ·exact⟨fun _=>h1,fun _=>⟨by omega,Ay j h2⟩⟩
        ·constructor
         ·rintro⟨_,qf⟩;have:=Jo j eR qf i h1;rw[dx] at this;cases this
         ·intro hH;exfalso;have key:∀m j,j<ops.size→aw ((dB ops ops.size).getD j 0) m=true→m<j:=by
           intro m j
           induction j using Nat.strongRecOn with
           |ind j mC=>
            intro hj hm;have rH:ops[j]?=some ops[j]:=fF hj;have p2:=DT j hj _ rH;obtain⟨e,e1,e2,e3⟩:=IM hj rH p2 hm;have qm:e.on<j:=by
                have:=bK.1 p2 e e1;rw[e2] at this;simpa [iJ] using this
            rcases e3 with rfl|e3
            ·exact qm
            ·have:=mC e.on qm (by omega) e3;omega
          have:=key i j eR h1;omega
   have hcp:=ajE alR;rw[aeY kX dx cX,av] at ak;obtain⟨ρ1,hρ1,hρ2⟩:=ak;have rz:∀d,o.dst=some d→¬vL ops E d∧d<a.tmps.size:=by
        intro d hd;refine⟨fun⟨i',o',df,ed,ec⟩=>?_,?_⟩
        ·have aE:i'≠i:=fun e=>by subst e;rw[dx] at df;cases df
         exact wD.dst_once bq ed ho ec hd aE
        ·have:=bK.1 aD.2 o (by simpa using gT ho);simp only[hd,aq] at this;rw[hn.size,Pf];simpa [iJ] using this.2
   have jV:oL o.op=true:=by
        have:=bK.1 aD.2 o (by simpa using gT ho);simp only[aq] at this;exact this.1
   have hj:∀j want t,o.guard=some (j,want)→(ops[j]?).bind (·.dst)=some t→vL ops E t:=by
        intro j want t ky ht;rw[av] at ht;obtain⟨oj,h1,h2⟩:=ht;have uY:=bK.1 fj o (by simpa using gT ho);simp only[ky] at uY;obtain⟨e,jR,kV⟩:=nY.1 uY;simp only[aq] at kV;have h3:=bK.1 uV e jR;rw[kV.1] at h3;simp only[sG,qT] at h3;exact⟨j,oj,by rw[←cR kV.2];exact h3,h1,h2⟩
   have alN:∀j,j<ops.size→aw (Nat.lor E (dK i)) j=true→∀m,aw ((dB ops ops.size).getD j 0) m=true→aw (Nat.lor E (dK i)) m=true:=by
        intro j hj qf m hm;rw[je,gF] at qf;rw[je,gF];rcases qf with qf|qf
        ·exact .inl (Jo j hj qf m hm)
        ·rw[←cR qf] at hm;exact .inl (Ay m hm)
   have main:=IN (rd:=rd) (K:=wpAnyIn (FR rd) 0 C.P .any ops Q k (listed.setIfInBounds i true)) (Q:=Q) hg hC ba hΦ hY jV rz hj hcp hρ1 (fun a' w' fL rL=>by
        have hA:(fun u=>vL ops E u∨o.dst=some u)=vL ops (Nat.lor E (dK i)):=by
         funext u;apply propext;constructor
         ·rintro(⟨i',o',h1,h2,h3⟩|h1)
          ·exact⟨i',o',by rw[je,h1,yI],h2,h3⟩
          ·exact⟨i,o,by rw[je,gH,nX],ho,h1⟩
         ·rintro⟨i',o',h1,h2,h3⟩;rw[je,gF] at h1;rcases h1 with h1|h1
          ·exact .inl ⟨i',o',h1,h2,h3⟩
          ·rw[←cR h1,ho] at h2;cases h2;exact .inr h3
        rw[hA] at fL;have hSt:nT (S.withR (fB ops (q.map (·.1)) ((List.range m).filter (aw E)) S.r)) o ((q.map (·.1)).getD i .none)=S.withR (fB ops (q.map (·.1)) ((List.range m).filter (aw (Nat.lor E (dK i)))) S.r):=by
         have ame:∀t,(nT (S.withR (fB ops (q.map (·.1)) ((List.range m).filter (aw E)) S.r)) o ((q.map (·.1)).getD i .none)).r t=fB ops (q.map (·.1)) ((List.range m).filter (aw (Nat.lor E (dK i)))) S.r t:=by
          intro t;by_cases Js:o.dst=some t
          ·have hb:(ops[i]?).bind (·.dst)=some t:=by rw[ho];exact Js
           rw[LR Pt hb (dj.2 ⟨bY.2 kX,by rw[je,gH,nX]⟩)];unfold nT;rw[Js];simp[St.setR,aK]
          ·have e1:(nT (S.withR (fB ops (q.map (·.1)) ((List.range m).filter (aw E)) S.r)) o ((q.map (·.1)).getD i .none)).r t=fB ops (q.map (·.1)) ((List.range m).filter (aw E)) S.r t:=by
            unfold nT;split
            ·rename_i d hd;exact br _ _ (fun e=>Js (by rw[hd,e]))
            ·rfl
           rw[e1];refine afm Pt (fun j hj=>?_) (fun _ _ _=>rfl);have hH:¬i=j:=fun e=>by subst e;rw[ho] at hj;exact Js hj
           rw[dj,dj,je,ew hH,sH]
         have:∀(X Y:St),X.o=Y.o→X.ver=Y.ver→(∀t,X.r t=Y.r t)→X=Y:=by
          intro X Y h1 h2 h3;cases X;cases Y;simp only at h1 h2 h3;subst h1 h2
          congr 1
          exact funext h3
         refine this _ _ ?_ ?_ ame
         ·unfold nT;split<;>rfl
         ·unfold nT;split<;>rfl
        rw[hSt] at fL;refine ih _ _ ρ1 a' w' (by have:=awy bC dx;omega) (fun j hj=>by rw[je,gF] at hj;rcases hj with hj|hj;exact xf j hj;rw[←cR hj];exact kX) alN (by simpa using aI) (fun j=>?_) (hn.trans (rL.mono fun t e=>⟨o,by simpa using gT ho,e⟩)) fL hρ2;rw[je];simp only[dT,vZ];by_cases db:i=j
        ·subst db;simp[aI,bC]
        ·rw[if_neg db,ew db,sH,←hl j];simp only[dT])
   simp only[wpOpIn,ho];split
   ·rename_i hw;rw[if_pos hw] at main;exact main
   ·rename_i hw;rw[if_neg hw] at main;exact⟨fun _ _=>trivial,main⟩
theorem atO {rd:Option Nat}(hC:CtxOK C σ0)(ba:dp C)(hΦ:dc C Φ)(hY:pD C Φ w0 σ0){ops:Array Oper}(aD:sl n ops=true)(fj:Ar ops=true)(DT:(List.range ops.size).all (I0 ops)=true){m:Nat}
 (AU:∀i,m≤i→i<ops.size→∀j,j<i→aw ((dB ops ops.size).getD i 0) j=true) {Q:Exit→Act→World→Prop} {ρ':Env}:
 ∀(k i:Nat) {S:St} {ρ:Env} {a:Act} {w:World} {r:St×List PI} (listed:Array Bool),i+k=ops.size→m≤i→listed.size=ops.size→(∀j,listed.getD j false=decide (j<i))→a.tmps.size=n→
  Good C w0 σ0 S ρ (lZ ops (List.range i)) a w→og C ops (List.range' i k) S=some r→PI.runs Φ r.2 ρ=some ρ'→
  (∀a' w',SameBut (ri ops) a a'→Good C w0 σ0 r.1 ρ' (lZ ops (List.range ops.size)) a' w'→Q .normal a' w')→wpAnyIn (FR rd) 0 C.P .any ops Q k listed a w:=by
 have JP:=aD;simp only[sl,aq] at aD;have bq:=mI aD.1
 have MM:∀i,i<ops.size→∀o,ops[i]?=some o→(o.after.toList.all fun e=> !Region.binds .any e||Nat.blt e.on i)=true:=by
  intro i hi o ho;have:=bK.1 DT i (bY.2 hi);unfold I0 at this;rw[ho] at this;exact this
 have mem:∀(listed:Array Bool) (i j:Nat),listed.size=ops.size→(∀j,listed.getD j false=decide (j<i))→(j∈Region.ready .any ops listed↔(j<ops.size∧¬j<i∧∀o,ops[j]?=some o→(o.after.toList.all fun e=> !Region.binds .any e||decide (e.on<i))=true)):=by
  intro listed i j aI hl;unfold Region.ready;simp only[dj,bY];refine and_congr_right fun hj=>?_;have h1:listed.getD j true=decide (j<i):=by
   rw[←hl j];simp only[dT];rw[fF (by omega)];rfl
  have h2:ops[j]?=some ops[j]:=fF hj;rw[h1,h2];simp only[km,jK,←Ww,hl,aq,iy,decide_eq_false_iff_not,aT,forall_eq']
 intro k
 induction k with
 |zero=>
  intro i S ρ a w r listed hik hmi aI hl hn hg hr ak hQ;simp only[List.range'_zero,og,aT] at hr;subst hr;rw[nQ ak] at hQ;refine⟨?_,hQ a w (.refl _ _) ?_⟩
  ·rw[WO];intro j hj;rw[mem listed i j aI hl] at hj;exact hj.2.1 (by omega)
  ·have:i=ops.size:=by omega
   rw[←this];exact hg
 |succ k ih=>
  intro i S ρ a w r listed hik hmi aI hl hn hg hr ak hQ;have bC:i<ops.size:=by omega
  have ho:ops[i]?=some ops[i]:=fF bC;generalize ops[i]=o at ho;refine⟨fun he=>?_,fun i' df=>?_⟩
  ·have:i∈Region.ready .any ops listed:=by
        rw[mem listed i i aI hl];refine⟨bC,by omega,fun o' ed=>?_⟩;rw[bK];intro e gM;have:=bK.1 (MM i bC o' ed) e gM;cases hb:Region.binds .any e with
        |false=>rfl
        |true=>
         rw[hb] at this;simp only[sG,qT,iJ] at this;simpa using this
   rw[he] at this;cases this
  ·rw[mem listed i i' aI hl] at df;obtain⟨h1,h2,h3⟩:=df;obtain rfl:i'=i:=by
        refine v7 fun aE=>?_;have ed:ops[i']?=some ops[i']:=fF h1;have Ay:=AU i' (by omega) h1 i (by omega);have af:∀m j,j<ops.size→aw ((dB ops ops.size).getD j 0) m=true→m<j:=by
         intro m j
         induction j using Nat.strongRecOn with
         |ind j mC=>
          intro hj hm;have rH:ops[j]?=some ops[j]:=fF hj;have p2:=MM j hj _ rH;obtain⟨e,e1,e2,e3⟩:=IM hj rH p2 hm;have qm:e.on<j:=by
           have:=bK.1 p2 e e1;rw[e2] at this;simpa [iJ] using this
          rcases e3 with rfl|e3
          ·exact qm
          ·have:=mC e.on qm (by omega) e3;omega
        obtain⟨e,e1,e2,e3⟩:=IM h1 ed (MM i' h1 _ ed) Ay;have h4:=bK.1 (h3 _ ed) e e1;rw[e2] at h4;simp only[sG,qT,decide_eq_true_eq] at h4;rcases e3 with e3|e3
        ·omega
        ·have:=af i e.on (by omega) e3;omega
   rw[G4] at hr;simp only[og,ho] at hr;simp only[av,aC] at hr;obtain⟨r1,iS,q,hq,rfl⟩:=hr;simp only[oY,av] at ak;obtain⟨ρ1,hρ1,hρ2⟩:=ak;have rz:∀d,o.dst=some d→¬lZ ops (List.range i') d∧d<a.tmps.size:=by
        intro d hd;refine⟨fun⟨i2,o2,Jx,eG,dW⟩=>?_,?_⟩
        ·have aE:i2≠i':=by have:=bY.1 Jx;omega
         exact wD.dst_once bq eG ho dW hd aE
        ·have:=bK.1 aD.2 o (by simpa using gT ho);simp only[hd,aq] at this;rw[hn];simpa [iJ] using this.2
   have jV:oL o.op=true:=by
        have:=bK.1 aD.2 o (by simpa using gT ho);simp only[aq] at this;exact this.1
   have hj:∀j want t,o.guard=some (j,want)→(ops[j]?).bind (·.dst)=some t→lZ ops (List.range i') t:=by
        intro j want t ky ht;rw[av] at ht;obtain⟨oj,h1,h2⟩:=ht;have uY:=bK.1 fj o (by simpa using gT ho);simp only[ky] at uY;obtain⟨e,jR,kV⟩:=nY.1 uY;simp only[aq] at kV;have h4:=bK.1 (h3 o ho) e jR;rw[kV.1] at h4;simp only[sG,qT,decide_eq_true_eq] at h4;exact⟨j,oj,bY.2 (by rw[←cR kV.2];exact h4),h1,h2⟩
   have main:=IN (rd:=rd) (K:=wpAnyIn (FR rd) 0 C.P .any ops Q k (listed.setIfInBounds i' true)) (Q:=Q) hg hC ba hΦ hY jV rz hj iS hρ1 (fun a' w' fL ib=>by
        have:(fun u=>lZ ops (List.range i') u∨o.dst=some u)=lZ ops (List.range (i'+1)):=by
         funext u;apply propext;constructor
         ·rintro(⟨i2,o2,h1,h2,h3⟩|h1)
          ·exact⟨i2,o2,bY.2 (by have:=bY.1 h1;omega),h2,h3⟩
          ·exact⟨i',o,bY.2 (by omega),ho,h1⟩
         ·rintro⟨i2,o2,g1,g2,g3⟩;by_cases e:i2=i'
          ·rw[e,ho] at g2;cases g2;exact .inr g3
          ·exact .inl ⟨i2,o2,bY.2 (by have:=bY.1 g1;omega),g2,g3⟩
        rw[this] at fL;refine ih (i'+1) _ (by omega) (by omega) (by simpa using aI) (fun j=>?_) (ib.size.trans hn) fL hq hρ2 (fun a2 w2 s2 g2=>hQ a2 w2 ((ib.mono fun t e=>⟨o,by simpa using gT ho,e⟩).trans s2) g2);simp only[dT,vZ];by_cases db:i'=j
        ·subst db;simp[aI,bC]
        ·rw[if_neg db];have:=hl j;simp only[dT] at this;rw[this];by_cases af:j<i'
         ·rw[decide_eq_true af,decide_eq_true (by omega:j<i'+1)]
         ·rw[decide_eq_false af,decide_eq_false (by omega:¬j<i'+1)])
   simp only[wpOpIn,ho];split
   ·rename_i hw;rw[if_pos hw] at main;exact main
   ·rename_i hw;rw[if_neg hw] at main;exact⟨fun _ _=>trivial,main⟩
end
def LJ (C:Ctx)(n:Nat)(ids:List Nat)(ops:Array Oper)(draw:Bool)(S:Snap):Option (Snap×List PI):=
 bif sl n ops then
    bif draw then
     bif Ar ops&&QE ops&&C.P.follows .mixedOrders then
        match Yy C ops (S.st ids) with
        |some r=>some (⟨vO (eV r.1) r.1 S.rs (ops.toList.filterMap (·.dst)),ids.map fun j=>ir r.1 (r.1.o j)⟩,r.2)
        |none=>
        (eX C ops (List.range ops.size) (S.st ids)).bind fun X=>DV X fun X=>DV (qw X ops.size) fun nc=>
         (Snap.hard ⟨S.rs.map fun s=>lg (S.st ids) (cw s),ids.map fun j=>ir (S.st ids) ((S.st ids).o j)⟩ fun T0=>Gx ops (sR C.P ops) (Rt C ops n ids X nc) ops.size [(0,T0)]).map fun T=>(⟨T.rs.map (eV (T.stO ids)),ids.map fun j=>ir (T.stO ids) ((T.stO ids).o j)⟩,X.flatten)
     else none
    else bif YL ops then(og C ops (List.range ops.size) (S.st ids)).map fun r=>(⟨vO (eV r.1) r.1 S.rs (ops.toList.filterMap (·.dst)),ids.map fun j=>ir r.1 (r.1.o j)⟩,r.2) else none
 else none
def LI (C:Ctx)(n:Nat)(ids:List Nat)(ops:Array Oper)(draw:Bool)(S:Snap):Option (Snap×List PI):=
 (LJ C n ids ops draw S).bind fun r=>r.1.hard fun T=>some (T,r.2)
theorem asT (C:Ctx)(n:Nat)(ids:List Nat)(ops:Array Oper)(draw:Bool)(S:Snap):LI C n ids ops draw S=LJ C n ids ops draw S:=by
 unfold LI;cases LJ C n ids ops draw S with
 |none=>rfl
 |some r=>rw[kl,Snap.hard_eq]
def yr (ops:Array Oper)(E:Nat):Nat→Prop:=fun t=>∃i o,aw E i=true∧ops[i]?=some o∧o.dst=some t
section
variable {C:Ctx} {S:St} {ρ:Env} {σ:Im} {own:Nat→Option Nat} {hv:Nat→Value} {w0:World} {σ0:Base} {A:Nat→Prop} {a:Act} {w:World} {n:Nat} {ids:List Nat} {Φ:aR}
theorem LG {ops:Array Oper}{listed:Array Bool}{E:Nat}(aI:listed.size=ops.size)(hl:∀i,listed.getD i false=aw E i)(i:Nat):i∈Region.ready .any ops listed↔i∈lY ops E:=by
 unfold Region.ready lY;simp only[dj,bY];refine and_congr_right fun hi=>?_;have h1:listed.getD i true=aw E i:=by
  rw[←hl i];simp only[dT];rw[fF (by omega)];rfl
 have h2:ops[i]?=some ops[i]:=fF hi;rw[h1,h2];simp only[km,jK,←Ww,hl]
theorem atf {rd:Option Nat}(hC:CtxOK C σ0)(ba:dp C)(hΦ:dc C Φ)(hY:pD C Φ w0 σ0){a0:Act}(Pf:a0.tmps.size=n){ops:Array Oper}(aD:sl n ops=true)(fj:Ar ops=true){X:List (List PI)}{Q:Exit→Act→World→Prop}{ρ':Env}(AR:QE ops=true)(hQp:∀c a w,¬Q (.panic c) a w):
 ∀(k:Nat) {L:List (Nat×Snap)} {T:Snap},Gx ops (sR C.P ops) (Rt C ops n ids X (qw X ops.size)) k L=some T→
  (∀a' w',SameBut (ri ops) a0 a'→Good C w0 σ0 (T.stO ids) ρ' (fun t=>∃E,yr ops E t) a' w'→Q .normal a' w')→
  ∀(E:Nat) (U:Snap),(E,U)∈L→∀(listed:Array Bool) (ρ:Env) (a:Act) (w:World),listed.size=ops.size→(∀i,listed.getD i false=aw E i)→SameBut (ri ops) a0 a→
   Good C w0 σ0 (U.stO ids) ρ (yr ops E) a w→PI.runs Φ (eC X (List.range ops.size) E) ρ=some ρ'→wpAnyIn (FR rd) 0 C.P .any ops Q k listed a w:=by
 simp only[sl,aq] at aD;have bq:=mI aD.1;intro k
 induction k with
 |zero=>
  intro L T hs hQ E U hm listed ρ a w aI hl hn hg ak;simp only[Gx] at hs;split at hs
  case h_2=>cases hs
  rename_i x;cases aP:(List.range ops.size).all (aw x.1)<;>simp only[aP,cond_true,cond_false] at hs
  ·cases hs
  cases hs;simp only[py] at hm;subst hm;simp only at aP hg hQ ak hl;have ku:=bK.1 aP;have OV:eC X (List.range ops.size) E=[]:=by
   unfold eC;rw[agl];intro i hi;rw[ku i hi];rfl
  rw[OV] at ak;simp only[PI.runs,aT] at ak;subst ak;refine⟨?_,hQ a w hn ?_⟩
  ·rw[WO];intro i hi;rw[LG aI hl] at hi;unfold lY at hi;simp only[dj,aq,iy] at hi;rw[ku i hi.1] at hi;cases hi.2.1
  ·obtain⟨σ,own,hv,h⟩:=hg;exact⟨σ,own,hv,h.defers,h.ok,h.le,h.old,h.newc,h.newm,h.below,h.bw,h.owns,h.regs,h.objs,fun t gs s e=>⟨fun g hm=>⟨E,(h.opts t gs s e).1 g hm⟩,(h.opts t gs s e).2⟩,h.frame⟩
 |succ k ih=>
  intro L T hs hQ E U hm listed ρ a w aI hl hn hg ak;simp only[Gx,av] at hs;obtain⟨L',hL,hs⟩:=hs;obtain⟨_,cP⟩:=aaL hL;obtain⟨aE,PN⟩:=cP _ hm;have amQ:lY ops E≠[]:=fun e=>aE (by unfold pP;rw[e];rfl)
  have bN:∀i,i∈pP ops (sR C.P ops) E→i∈lY ops E:=fun i hi=>by
   unfold pP at hi;split at hi
   ·rename_i i' hp;rw[py.1 hi];exact(L3 hp).1
   ·exact hi
  have step:∀i,i∈pP ops (sR C.P ops) E→∀Q':Exit→Act→World→Prop,wpOpIn (FR rd) 0 C.P ops Q' i (wpAnyIn (FR rd) 0 C.P .any ops Q k (listed.setIfInBounds i true)) a w:=by
   intro i hi Q';obtain⟨y,hy,hyL⟩:=PN i hi;have hi:=bN i hi;unfold lY at hi;simp only[dj,bY,aq,iy] at hi;obtain⟨bC,dx,uV⟩:=hi;simp only[Rt] at hy;split at hy
   case h_2=>cases hy
   rename_i o ho;simp only[av] at hy;obtain⟨r,hr,hy⟩:=hy;cases hc:(PI.beqs r.2 (X.getD i [])&&((qw X ops.size).getD i []).all (aw E))<;>simp only[hc,cond_true,cond_false] at hy
   ·cases hy
   cases hy;simp only[aq] at hc;have hX:=PI.beqs_eq _ _ hc.1;rw[aeY bC dx hc.2,av] at ak;obtain⟨ρ1,hρ1,hρ2⟩:=ak;rw[←hX] at hρ1;rw[ho] at uV;simp only at uV;have rz:∀d,o.dst=some d→¬yr ops E d∧d<a.tmps.size:=by
        intro d hd;refine⟨fun⟨i',o',df,ed,ec⟩=>?_,?_⟩
        ·have aE:i'≠i:=fun e=>by subst e;rw[dx] at df;cases df
         exact wD.dst_once bq ed ho ec hd aE
        ·have:=bK.1 aD.2 o (by simpa using gT ho);simp only[hd,aq] at this;rw[hn.size,Pf];simpa [iJ] using this.2
   have jV:oL o.op=true:=by
        have:=bK.1 aD.2 o (by simpa using gT ho);simp only[aq] at this;exact this.1
   have hj:∀j want t,o.guard=some (j,want)→(ops[j]?).bind (·.dst)=some t→yr ops E t:=by
        intro j want t ky ht;rw[av] at ht;obtain⟨oj,h1,h2⟩:=ht;have uY:=bK.1 fj o (by simpa using gT ho);simp only[ky] at uY;obtain⟨e,jR,kV⟩:=nY.1 uY;simp only[aq] at kV;have h3:=bK.1 uV e jR;rw[kV.1] at h3;simp only[sG,qT] at h3;exact⟨j,oj,by rw[←cR kV.2];exact h3,h1,h2⟩
   have main:=IN (rd:=rd) (K:=wpAnyIn (FR rd) 0 C.P .any ops Q k (listed.setIfInBounds i true)) (Q:=Q') hg hC ba hΦ hY jV rz hj hr hρ1 (fun a' w' fL rL=>by
        have hA:(fun u=>yr ops E u∨o.dst=some u)=yr ops (Nat.lor E (dK i)):=by
         funext u;apply propext;constructor
         ·rintro(⟨i',o',h1,h2,h3⟩|h1)
          ·exact⟨i',o',by rw[je,h1,yI],h2,h3⟩
          ·exact⟨i,o,by rw[je,gH,nX],ho,h1⟩
         ·rintro⟨i',o',h1,h2,h3⟩;rw[je,gF] at h1;rcases h1 with h1|h1
          ·exact .inl ⟨i',o',h1,h2,h3⟩
          ·rw[←cR h1,ho] at h2;cases h2;exact .inr h3
        rw[hA] at fL
        refine ih hs hQ _ _ hyL _ ρ1 a' w' (by simpa using aI) (fun j=>?_) (hn.trans (rL.mono fun t e=>⟨o,by simpa using gT ho,e⟩)) (by
         have:=fL.snapO U.rs.length ids
         rw[show r.1.snapO U.rs.length ids=⟨vO (lg r.1) r.1 U.rs o.dst.toList,ids.map fun j=>ir r.1 (r.1.o j)⟩ from by
          unfold St.snapO;rw[GB fun t ht=>?_];rw[XO hr t (fun e=>ht (by rw[e];simp))];rfl] at this
         exact this) hρ2
        rw[je];simp only[dT,vZ];by_cases db:i=j
        ·subst db;simp[aI,bC]
        ·rw[if_neg db,ew db,sH,←hl j];simp only[dT])
   simp only[wpOpIn,ho];split
   ·rename_i hw;rw[if_pos hw] at main;exact main
   ·rename_i hw;rw[if_neg hw] at main;exact⟨fun _ _=>trivial,main⟩
  cases Py:Ca (sR C.P ops) E (lY ops E) with
  |none=>
   have mm:pP ops (sR C.P ops) E=lY ops E:=by unfold pP;rw[Py]
   refine⟨fun he=>?_,fun i hi=>step i (by rw[mm];exact(LG aI hl i).1 hi) Q⟩;exfalso;refine amQ ?_;rw[WO];intro i hi;rw[←LG aI hl,he] at hi;cases hi
  |some i=>
   have mm:pP ops (sR C.P ops) E=[i]:=by unfold pP;rw[Py]
   obtain⟨hir,b,hb,alE⟩:=L3 Py;obtain⟨oi,ZV,PA,OH⟩:=ahh hb;obtain⟨v,hv,hK⟩:=ar4 ZV PA (step i (by rw[mm];simp) _);refine awR (fun j o ho=>?_) ZV (fun j o cs b' ho e=>?_) (fun c a' w' h=>(hQp _ _ _ h).elim) k listed a w (fun j oj hj hH ny dD=>OH j oj hj hH (fun JA=>?_) dD) ((LG aI hl i).2 hir) hv hK
   ·have:=bK.1 aD.2 o (by simpa using gT ho);simp only[aq] at this;exact this.1
   ·have:=bK.1 AR o (by simpa using gT ho);rw[e] at this;cases this
   ·have h1:=bK.1 alE j JA;have h2:=hl j;rw[h1] at h2;simp only[dT] at h2 ny;cases AH:listed[j]? with
    |none=>rw[AH] at h2;cases h2
    |some x=>
     rw[AH] at h2 ny;simp only[jK] at h2 ny;rw[h2] at ny;cases ny
theorem afg {ops:Array Oper}:∀{l:List Nat} {S:St} {X:List (List PI)},eX C ops l S=some X→X.length=l.length
 |[],S,X,h=>by simp only[eX,aT] at h;subst h;rfl
 |i::l,S,X,h=>by
  simp only[eX] at h;split at h
  case h_2=>cases h
  simp only[av,aC] at h;obtain⟨r,_,q,hq,rfl⟩:=h;simp[afg hq]
theorem aeZ (X:List (List PI)):eC X (List.range X.length) 0=X.flatten:=by
 have h0:∀i,aw 0 i=false:=fun i=>by rw[sU];simp
 have key:∀(Y Z:List (List PI)),eC (Y++Z) (List.range' Y.length Z.length) 0=Z.flatten:=by
  intro Y Z
  induction Z generalizing Y with
  |nil=>rfl
  |cons z Z ih=>
   have:=ih (Y++[z]);simp only[px,List.singleton_append,kg,nZ,yP,gI] at this;rw[nZ,G4];have e:eC (Y++z::Z) (Y.length::List.range' (Y.length+1) Z.length) 0=(Y++z::Z).getD Y.length []++eC (Y++z::Z) (List.range' (Y.length+1) Z.length) 0:=by
        unfold eC;rw[wc,h0];rfl
   rw[e,this,WT]
   congr 1
   simp[aJ]
 have:=key [] X;simp only[uA,yP] at this;rw[Mx];exact this
theorem asU (ba:dp C)(hΦ:dc C Φ):MD C n ids Φ (LI C n ids):=by
 intro id ops draw S r hr rd w0 σ0 ρ ρ' a w Q hC hY hn hg ak hQ;rw[asT] at hr;unfold LJ at hr;cases aD:sl n ops<;>simp only[aD,cond_true,cond_false] at hr
 ·cases hr
 cases draw with
 |false=>
  simp only[cond_false] at hr;cases Zw:YL ops<;>simp only[Zw,cond_true,cond_false] at hr
  ·cases hr
  simp only[aC] at hr;obtain⟨q,hq,rfl⟩:=hr;refine wpIn_region ?_
  have tE:lZ ops []=fun _=>False:=by
   funext t;apply propext;constructor
   ·rintro⟨i,o,h,_⟩;cases h
   ·intro h;exact h.elim
  refine wD hC ba hΦ hY aD (List.range ops.size) [] (by simpa using Mw) (fun p i q o j want hl ho ky=>?_) hn (by rw[tE];exact hg) hq ak (fun a' w' jU fL=>hQ a' w' jU (by
   have:=fL.snapF S.rs.length ids
   rw[show q.1.snap S.rs.length ids=⟨vO (eV q.1) q.1 S.rs (ops.toList.filterMap (·.dst)),ids.map fun j=>ir q.1 (q.1.o j)⟩ from by
        unfold St.snap;rw[GB fun t ht=>?_];rw[NX hq t (fun i o hi ho e=>ht (uz.2 ⟨o,by simpa using gT ho,e⟩))];show _=eV q.1 (cw (S.rs.getD t .none));cases S.rs.getD t .none<;>rfl] at this
   exact this))
  have hi:i<ops.size:=by
   have:i∈List.range ops.size:=by rw[hl];simp
   exact bY.1 this
  have hb:=bK.1 Zw i (bY.2 hi);rw[ho] at hb;simp only[ky,iJ] at hb;have hp:=List.pairwise_lt_range (n:=ops.size);have uZ:j∈List.range ops.size:=bY.2 (by omega);rw[hl,List.pairwise_append] at hp;obtain⟨_,fo,_⟩:=hp;rw[List.pairwise_cons] at fo;rw[hl,dt] at uZ;simp only[uA];rcases uZ with hm|hm
  ·exact hm
  ·rcases cC.1 hm with e|hm
   ·omega
   ·have:=fo.1 j hm;omega
 |true=>
  simp only[cond_true] at hr;cases fj:(Ar ops&&QE ops&&C.P.follows .mixedOrders)<;>simp only[fj,cond_true,cond_false] at hr
  ·cases hr
  simp only[aq] at fj;have AR:=fj.1.2
  replace fj:Ar ops=true∧C.P.follows .mixedOrders=true:=⟨fj.1.1,fj.2⟩
  have h0:∀i,aw 0 i=false:=fun i=>by rw[sU];simp
  split at hr
  case h_1=>
   rename_i r jS;cases hr;generalize PV:pg (dB ops ops.size) ops.size=m at*;unfold Yy at jS;rw[PV] at jS;have amN:m≤ops.size:=PV▸afC _ _;have AU:∀i,m≤i→i<ops.size→∀j,j<i→aw ((dB ops ops.size).getD i 0) j=true:=PV▸afB _ _;rw[av] at jS;obtain⟨q,hq,jS⟩:=jS;cases u7:DH ops (qw (q.map (·.2)) m) (dB ops ops.size) m<;>simp only[u7,cond_true,cond_false] at jS
   ·cases jS
   rw[aC] at jS;obtain⟨r1,iS,rfl⟩:=jS;refine wpIn_region_any fj.2 ?_
   have tE:vL ops 0=fun _=>False:=by
        funext t;apply propext;constructor
        ·rintro⟨i,o,h,_⟩;rw[h0] at h;cases h
        ·intro h;exact h.elim
   have hlen:(q.map (·.2)).length=m:=by rw[fG];exact(On hq).1
   have anX:sA ops 0=ops.size:=by
        unfold sA;have:((List.range ops.size).filter fun i=> !aw 0 i)=List.range ops.size:=Mq.2 fun i _=>by rw[h0];rfl
        rw[this,G1]
   have D5:(List.range m).filter (aw 0)=[]:=WR.2 fun i _=>by rw[h0];simp
   simp only[oY,av] at ak;obtain⟨ρ1,hρ1,hρ2⟩:=ak;have Pv:=u7;unfold DH at Pv;rw[aq] at Pv;refine ajH (w0:=w0) (S:=S.st ids) hC ba hΦ hY hn aD fj.1 amN hq u7 AU (ρ':=ρ1) (fun listed a' w' aI hl jU fL=>?_) ops.size 0 _ ρ a _ anX (fun j hj=>by rw[h0] at hj;cases hj) (fun j _ hj=>by rw[h0] at hj;cases hj) (by simp) (fun i=>?_) (.refl _ _) ?_ ?_
   ·refine atO hC ba hΦ hY aD fj.1 Pv.2 AU (ops.size-m) m listed (by omega) (bl _) aI hl (jU.size.trans hn) fL iS hρ2 (fun a2 w2 s2 g2=>hQ a2 w2 (jU.trans s2) (by
     have:=g2.snapF S.rs.length ids
     rw[show r1.1.snap S.rs.length ids=⟨vO (eV r1.1) r1.1 S.rs (ops.toList.filterMap (·.dst)),ids.map fun j=>ir r1.1 (r1.1.o j)⟩ from by
      unfold St.snap;rw[GB fun t ht=>?_];rw[NX iS t (fun i o hi ho e=>ht (uz.2 ⟨o,by simpa using gT ho,e⟩))]
      have e1:fB ops (q.map (·.1)) (List.range m) (S.st ids).r t=(S.st ids).r t:=Gz fun i hi e=>by
        rw[av] at e;obtain⟨o,ho,hd⟩:=e;exact ht (uz.2 ⟨o,by simpa using gT ho,hd⟩)
      show eV _ (S.rs.getD t .none)=eV _ (fB ops (q.map (·.1)) (List.range m) (S.st ids).r t);rw[e1];show _=eV _ (cw (S.rs.getD t .none));cases S.rs.getD t .none<;>rfl] at this
     exact this))
   ·rw[h0];simp only[dT,af2];split<;>rfl
   ·rw[tE,D5];exact hg.drew
   ·rw[←hlen,aeZ];exact hρ1
  simp only[Za,Snap.hard_eq,av,aC] at hr;obtain⟨X,hX,T,hT,rfl⟩:=hr;refine wpIn_mono (Q:=fun e a w=>(∀c,e≠.panic c)∧Q e a w) ?_ fun e a w h=>h.2;refine wpIn_region_any fj.2 ?_
  have tE:yr ops 0=fun _=>False:=by
   funext t;apply propext;constructor
   ·rintro⟨i,o,h,_⟩;rw[h0] at h;cases h
   ·intro h;exact h.elim
  have hlen:=afg hX;rw[G1] at hlen
  refine atf (w0:=w0) hC ba hΦ hY hn aD fj.1 (ρ':=ρ') AR (fun c a w h=>h.1 c rfl) ops.size hT (fun a' w' jU fL=>⟨fun c e=>(by cases e),hQ a' w' jU (by
   have:=fL.snapF T.rs.length ids
   rw[show(T.stO ids).snap T.rs.length ids=⟨T.rs.map (eV (T.stO ids)),ids.map fun j=>ir (T.stO ids) ((T.stO ids).o j)⟩ from by
        unfold St.snap;have:=GB (g:=eV (T.stO ids)) (S:=T.stO ids) (rs:=T.rs) (ds:=[]) (fun t _=>rfl);rw[←this];rfl] at this
   exact this)⟩) 0 _ (py.2 rfl) _ ρ a _ (by simp) (fun i=>?_) (.refl _ _) ?_ ?_
  ·rw[h0];simp only[dT,af2];split<;>rfl
  ·rw[tE];have:=(hg.drew).snapO S.rs.length ids
   rw[show(S.st ids).snapO S.rs.length ids=⟨S.rs.map fun s=>lg (S.st ids) (cw s),ids.map fun j=>ir (S.st ids) ((S.st ids).o j)⟩ from by
        unfold St.snapO
        have:=GB (g:=fun s=>lg (S.st ids) (cw s)) (S:=S.st ids) (rs:=S.rs) (ds:=[]) (fun t _=>by
         show lg _ (cw (S.rs.getD t .none))=lg _ (cw (cw (S.rs.getD t .none)));cases S.rs.getD t .none<;>rfl)
        have h2:(fun t=>lg (S.st ids) (cw ((S.st ids).r t)))=fun t=>lg (S.st ids) ((S.st ids).r t):=by
         funext t;show lg _ (cw (cw (S.rs.getD t .none)))=lg _ (cw (S.rs.getD t .none));cases S.rs.getD t .none<;>rfl
        rw[h2] at this;rw[←this];rfl] at this
   exact this
  ·rw[←hlen,aeZ];exact ak
end
end Cx
