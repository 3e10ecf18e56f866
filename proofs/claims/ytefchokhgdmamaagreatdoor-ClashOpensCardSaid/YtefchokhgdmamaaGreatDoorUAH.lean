/-
  Regions: in the order of the text, and in every order that their edges allow.
-/
import Derived.Test.YtefchokhgdmamaaGreatDoorUAG
import Derived.OrdersIn
set_option linter.unusedSimpArgs false
set_option linter.unusedVariables false
namespace Cx
open Go Go.RowKit
def lE (S:St):Sh→Sh
 |.opt gs s=>.opt gs (fH S s)
 |s=>fH S s
def St.snapO (n:Nat)(ids:List Nat)(S:St):Snap:=⟨(List.range n).map fun t=>lE S (S.r t),ids.map fun j=>iV S (S.o j)⟩
def Snap.stO (ids:List Nat)(s:Snap):St:=⟨fun t=>s.rs.getD t .none,fun j=>dY ids s.os j,fun _=>0⟩
theorem rv (S:St)(s:Sh):∀gs s',fH S s≠.opt gs s':=by
 intro gs s' e;cases s<;>simp only[fH] at e<;>first|cases e|(revert e;cases Nat.beq _ _<;>intro e<;>cases e)|(revert e;cases List.all _ _<;>intro e<;>cases e)
section
variable {C:Ctx} {S:St} {ρ:Env} {σ:Im} {own:Nat→Option Nat} {hv:Nat→Value} {w0:World} {σ0:Base} {A:Nat→Prop} {a:Act} {w:World} {n:Nat} {ids:List Nat} {Φ:aV}
theorem amw {s:Sh}{v:Value}{d:D}(h:aE C S ρ σ hv s v d){T:St}(hT:T.ver=fun _=>0):aE C T ρ σ hv (lE S s) v d:=by
 have hc:Compat S.norm hv T hv:=⟨fun j=>by rw[hT];exact oc _,fun _ _=>rfl⟩
 have key:∀s,aE C S ρ σ hv s v d→aE C T ρ σ hv (fH S s) v d:=fun s hs=>aE.mono' (.refl σ) hc (rv S s) (I9 hs).1;cases s with
 |opt gs s=>exact⟨fun hh=>key s (h.1 hh),h.2⟩
 |_=>exact key _ h
theorem Good.snapO (h:Good C w0 σ0 S ρ A a w)(n:Nat)(ids:List Nat):Good C w0 σ0 ((S.snapO n ids).stO ids) ρ A a w:=by
 obtain⟨σ,own,hv,h⟩:=h;have h1:=h.norm;have hc:Compat S.norm hv ((S.snapO n ids).stO ids) hv:=⟨fun _=>aX _,fun _ _=>rfl⟩
 refine⟨σ,own,hv,h.defers,h.ok,h.le,h.old,h.newc,h.newm,h.below,h.bw,h.owns,fun t=>?_,fun j=>?_,fun t gs s e=>?_,?_⟩
 rotate_right
 ·obtain⟨t,fx,cx,f1,f5⟩:=h.frame;refine⟨t,fx,cx,f1,fun j hj=>f5 j ?_⟩;exact DO (fun j=>iV S (S.o j)) (fun ob=>ob=.tr→S.o j=.tr) (fun e=>by cases e) j YW ids hj
 ·show aE C _ ρ σ hv (((List.range n).map fun t=>lE S (S.r t)).getD t .none) _ _;rw[aH,cK];by_cases ht:t<n
  ·rw[qK ht];exact amw (h.regs t) rfl
  ·rw[rX (by simpa using ht)];trivial
 ·have ho:=(h1.objs j).mono (.refl σ) hc (w:=w) (w':=w) rfl rfl (fun k hk=>⟨hk,rfl⟩);exact DO (fun j=>iV S (S.o j)) (fun ob=>cC C _ ρ σ own hv w w0.heap.size j ob) trivial j ho ids
 ·change ((List.range n).map fun t=>lE S (S.r t)).getD t .none=.opt gs s at e;rw[aH,cK] at e;by_cases ht:t<n
  ·rw[qK ht] at e;simp only[kU,nr] at e;cases hs:S.r t with
   |opt bP s'=>
    rw[hs] at e;simp only[lE,Sh.opt.injEq] at e;obtain⟨rfl,rfl⟩:=e;exact⟨(h.opts t bP s' hs).1,rv S s'⟩
   |none=>rw[hs] at e;exact absurd e (rv S .none gs s)
   |yv=>rw[hs] at e;exact absurd e (rv S .yv gs s)
   |fclo f c=>rw[hs] at e;exact absurd e (rv S (.fclo f c) gs s)
   |agg l=>rw[hs] at e;exact absurd e (rv S (.agg l) gs s)
   |dat t=>rw[hs] at e;exact absurd e (rv S (.dat t) gs s)
   |obj t u=>rw[hs] at e;exact absurd e (rv S (.obj t u) gs s)
   |ptr t u v=>rw[hs] at e;exact absurd e (rv S (.ptr t u v) gs s)
   |eptr t u v x=>rw[hs] at e;exact absurd e (rv S (.eptr t u v x) gs s)
  ·rw[rX (by simpa using ht)] at e;cases e
theorem Good.snapF (h:Good C w0 σ0 S ρ A a w)(n:Nat)(ids:List Nat):Good C w0 σ0 ((S.snap n ids).st ids) ρ (fun _=>False) a w:=by
 obtain⟨σ,own,hv,h⟩:=h;exact⟨σ,own,hv,h.snap n ids⟩
theorem Good.drew (h:Good C w0 σ0 S ρ A a w):Good C w0 σ0 S ρ A a {w with drawn:=w.drawn+1}:=by
 obtain⟨σ,own,hv,h⟩:=h;refine⟨σ,own,hv,h.defers,⟨fun k o v e=>h.ok.c k o v e,fun k es e=>h.ok.m k es e⟩,h.le,h.old,h.newc,h.newm,h.below.drew,h.bw,h.owns,h.regs,fun j=>?_,h.opts,?_⟩
 rotate_right
 ·obtain⟨t,fx,cx,f1,f2⟩:=h.frame;exact⟨t,fx,cx,⟨σ0.keep _ _ _ _ _ f1.F (Below.drew (.refl _ _)) (fun _ _=>rfl),f1.own,f1.c,f1.m,f1.d⟩,f2⟩
 exact(h.objs j).mono (.refl σ) (.refl S hv) rfl rfl (fun k hk=>⟨hk,rfl⟩)
end
def vt (g:Sh→Sh)(S:St)(rs:List Sh)(ds:List Nat):List Sh:=(ds.foldl (fun l d=>l.set d (S.r d)) rs).map g
theorem VW (S:St):∀(ds:List Nat) (rs:List Sh),(ds.foldl (fun l d=>l.set d (S.r d)) rs).length=rs.length∧∀t,t<rs.length→(ds.foldl (fun l d=>l.set d (S.r d)) rs).getD t .none=if t∈ds then S.r t else rs.getD t .none
 |[],rs=>⟨rfl,fun t _=>by simp⟩
 |d::ds,rs=>by
  obtain⟨h1,h2⟩:=VW S ds (rs.set d (S.r d));simp only[K0] at h1 h2;refine⟨h1,fun t ht=>?_⟩;rw[KW,h2 t ht];simp only[cW,aH,tO];by_cases hm:t∈ds
  ·simp[hm]
  ·by_cases e:d=t
   ·subst e;simp[hm,ht]
   ·have e':¬t=d:=fun h=>e h.symm;simp[hm,e,e']
theorem Fl {g:Sh→Sh}{S:St}{rs:List Sh}{ds:List Nat}(h:∀t,t∉ds→g (rs.getD t .none)=g (S.r t)):vt g S rs ds=(List.range rs.length).map fun t=>g (S.r t):=by
 obtain⟨h1,h2⟩:=VW S ds rs;unfold vt;apply KS;intro t;simp only[cK];by_cases ht:t<rs.length
 ·have:=h2 t ht;rw[aH,bu (by omega)] at this;rw[bu (by omega),qK ht];simp only[nr,kU] at this ⊢;rw[this];by_cases hm:t∈ds
  ·simp[hm]
  ·simp only[hm,if_false];rw[h t hm]
 ·rw[rX (by omega),rX (by simpa using ht)];rfl
def Sh.hd {α:Type}(s:Sh)(k:Sh→α):α:=
 match s with
 |.none=>k .none
 |.dat t=>k (.dat t)
 |.obj j v=>k (.obj j v)
 |.ptr j v o=>k (.ptr j v o)
 |.eptr j v z o=>k (.eptr j v z o)
 |.opt gs s=>k (.opt gs s)
 |.yv=>k .yv
 |.fclo f c=>k (.fclo f c)
 |.agg l=>k (.agg l)
theorem Sh.hd_eq {α:Type}(s:Sh)(k:Sh→α):s.hd k=k s:=by cases s<;>rfl
def zw {α:Type}:List Sh→(List Sh→α)→α
 |[],k=>k []
 |s::l,k=>s.hd fun s=>zw l fun l=>k (s::l)
theorem M4 {α:Type}:∀(l:List Sh) (k:List Sh→α),zw l k=k l
 |[],_=>rfl
 |s::l,k=>by rw[zw,Sh.hd_eq,M4 l]
def Ob.hd {α:Type}(s:Ob)(k:Ob→α):α:=
 match s with
 |.dead=>k .dead
 |.fz t=>k (.fz t)
 |.fbox t=>k (.fbox t)
 |.box true l=>zw l fun l=>k (.box true l)
 |.box false l=>zw l fun l=>k (.box false l)
 |.row T e=>k (.row T e)
 |.mp a b=>k (.mp a b)
 |.it a b=>k (.it a b)
 |.tr=>k .tr
theorem Ob.hd_eq {α:Type}(s:Ob)(k:Ob→α):s.hd k=k s:=by
 cases s with
 |box ag l=>cases ag<;>simp only[Ob.hd,M4]
 |_=>rfl
def HO {α:Type}:List Ob→(List Ob→α)→α
 |[],k=>k []
 |s::l,k=>s.hd fun s=>HO l fun l=>k (s::l)
theorem Wp {α:Type}:∀(l:List Ob) (k:List Ob→α),HO l k=k l
 |[],_=>rfl
 |s::l,k=>by rw[HO,Ob.hd_eq,Wp l]
def Snap.hard {α:Type}(s:Snap)(k:Snap→α):α:=zw s.rs fun a=>HO s.os fun b=>k ⟨a,b⟩
theorem Snap.hard_eq {α:Type}(s:Snap)(k:Snap→α):s.hard k=k s:=by rw[Snap.hard,M4,Wp]
def HP {α β:Type}:List β→(List β→α)→α
 |[],k=>k []
 |s::l,k=>HP l fun l=>k (s::l)
theorem Wr {α β:Type}:∀(l:List β) (k:List β→α),HP l k=k l
 |[],_=>rfl
 |s::l,k=>by rw[HP,Wr l]
def CE {α β:Type}:List (List β)→(List (List β)→α)→α
 |[],k=>k []
 |s::l,k=>HP s fun s=>CE l fun l=>k (s::l)
theorem Wq {α β:Type}:∀(l:List (List β)) (k:List (List β)→α),CE l k=k l
 |[],_=>rfl
 |s::l,k=>by rw[CE,Wr,Wq l]
def aA (P:Program){α:Type}(s:Sem α):Prop:=(∃a,∀w,s.run P w=.ok a w)∨∀w,∃h w',s.run P w=.halt h w'
section
variable {P:Program}
theorem aA.pure {α:Type}(a:α):aA P (Sem.pure a):=.inl ⟨a,fun w=>rfl⟩
theorem aA.pure' {α:Type}(a:α):aA P (Pure.pure a:Sem α):=.inl ⟨a,fun w=>rfl⟩
theorem aA.halt {α:Type}(h:Halt):aA P (Sem.halt h:Sem α):=.inr fun w=>⟨h,w,rfl⟩
theorem aA.bind' {α β:Type}{s:Sem α}{f:α→Sem β}(h:aA P s)(hf:∀a,(∀w,s.run P w=.ok a w)→aA P (f a)):aA P (s>>=f):=by
 rcases h with⟨a,ha⟩|hd
 ·rcases hf a ha with⟨b,hb⟩|hd
  ·exact .inl ⟨b,fun w=>by rw[Sem.run_bind,ha w];exact hb w⟩
  ·refine .inr fun w=>?_;obtain⟨x,w',e⟩:=hd w;exact⟨x,w',by rw[Sem.run_bind,ha w];exact e⟩
 ·refine .inr fun w=>?_;obtain⟨x,w',e⟩:=hd w;exact⟨x,w',by rw[Sem.run_bind,e];rfl⟩
theorem aA.bind {α β:Type}{s:Sem α}{f:α→Sem β}(h:aA P s)(hf:∀a,aA P (f a)):aA P (s>>=f):=h.bind' fun a _=>hf a
def cv {α:Type}(s:Sem α):Prop:=∀P w,∃h w',s.run P w=.halt h w'
theorem cv.noW {α:Type}{s:Sem α}(h:cv s):aA P s:=.inr (h P)
theorem cv.halt {α:Type}(h:Halt):cv (Sem.halt h:Sem α):=fun P w=>⟨h,w,rfl⟩
theorem cv.of_bind {α β:Type}{s:Sem α}{f:α→Sem β}(hf:∀a,cv (f a)):cv (s>>=f):=by
 intro P w;rw[Sem.run_bind];cases e:s.run P w with
 |ok a w'=>exact hf a P w'
 |halt h w'=>exact⟨h,w',rfl⟩
theorem aA.asBool (v:Value):aA P (Go.asBool v):=by
 cases v<;>first|exact .pure _|exact .halt _
theorem aA.asIntOf (v:Value):aA P (Go.asIntOf v):=by
 unfold Go.asIntOf;split<;>first|exact .pure _|exact .halt _
theorem aA.sureAddr (v:Value):aA P (Instr.sureAddr v):=by
 unfold Instr.sureAddr;split<;>first|exact .pure _|exact .halt _
theorem aA.prog:aA P Go.program:=.inl ⟨P,fun w=>rfl⟩
theorem aA.underlying (t:TypeId):aA P (Go.underlying t):=by
 unfold Go.underlying;refine .bind .prog fun p=>?_;split<;>first|exact .pure _|exact .halt _
theorem aA.sizeOf (t:TypeId):aA P (Go.sizeOf t):=by
 unfold Go.sizeOf Go.typeInfo;refine .bind (.bind .prog fun p=>?_) fun _=>.pure _;split<;>first|exact .pure _|exact .halt _
theorem cv.runtimePanic {α:Type}(e:RuntimeError):cv (Go.runtimePanic e:Sem α):=by
 unfold Go.runtimePanic;refine .of_bind fun p=>?_;cases e<;>first|exact .halt _|exact .of_bind fun _=>.halt _|exact .of_bind fun _=>.of_bind fun _=>.halt _
theorem cv.boundsPanic {α:Type}(k:IntKind)(x y:Int)(c:BoundsCode):cv (Go.boundsPanic k x y c:Sem α):=by
 unfold Go.boundsPanic;dsimp only;split<;>exact .of_bind fun _=>.runtimePanic _
theorem aA.indexAt (t:TypeId)(x i:Value):aA P (Instr.indexAt t x i):=by
 unfold Instr.indexAt
 repeat' (first|(first|exact aA.pure _|exact aA.pure' _|exact aA.halt _|exact cv.noW (cv.boundsPanic _ _ _ _)|exact cv.noW (cv.runtimePanic _)|exact aA.prog|exact aA.underlying _|exact aA.sizeOf _|exact aA.asIntOf _|exact aA.sureAddr _|exact aA.asBool _)|(refine aA.bind ?_ fun _=>?_)|dsimp only|split)
theorem aA.sliceBound (x:Value)(y:Nat)(c:BoundsCode):aA P (Instr.sliceBound x y c):=by
 unfold Instr.sliceBound
 repeat' (first|(first|exact aA.pure _|exact aA.pure' _|exact aA.halt _|exact cv.noW (cv.boundsPanic _ _ _ _)|exact cv.noW (cv.runtimePanic _)|exact aA.prog|exact aA.underlying _|exact aA.sizeOf _|exact aA.asIntOf _|exact aA.sureAddr _|exact aA.asBool _)|(refine aA.bind ?_ fun _=>?_)|dsimp only|split)
theorem aA.sliceBounds (b:Bool)(n m:Nat)(lo hi mx:Option Value):aA P (Instr.sliceBounds b n m lo hi mx):=by
 unfold Instr.sliceBounds
 repeat' (first|exact aA.sliceBound _ _ _|(first|exact aA.pure _|exact aA.pure' _|exact aA.halt _|exact cv.noW (cv.boundsPanic _ _ _ _)|exact cv.noW (cv.runtimePanic _)|exact aA.prog|exact aA.underlying _|exact aA.sizeOf _|exact aA.asIntOf _|exact aA.sureAddr _|exact aA.asBool _)|(refine aA.bind ?_ fun _=>?_)|dsimp only|split)
theorem aA.asAddr (v:Value):aA P (Go.asAddr v):=by
 unfold Go.asAddr
 repeat' (first|(first|exact aA.pure _|exact aA.pure' _|exact aA.halt _|exact cv.noW (cv.boundsPanic _ _ _ _)|exact cv.noW (cv.runtimePanic _)|exact aA.prog|exact aA.underlying _|exact aA.sizeOf _|exact aA.asIntOf _|exact aA.sureAddr _|exact aA.asBool _)|(refine aA.bind ?_ fun _=>?_)|dsimp only|split)
theorem aA.slice (t:TypeId)(x:Value)(lo hi mx:Option Value):aA P (Instr.slice t x lo hi mx):=by
 unfold Instr.slice
 repeat' (first|exact aA.sliceBounds _ _ _ _ _ _|exact aA.asAddr _|(first|exact aA.pure _|exact aA.pure' _|exact aA.halt _|exact cv.noW (cv.boundsPanic _ _ _ _)|exact cv.noW (cv.runtimePanic _)|exact aA.prog|exact aA.underlying _|exact aA.sizeOf _|exact aA.asIntOf _|exact aA.sureAddr _|exact aA.asBool _)|(refine aA.bind ?_ fun _=>?_)|dsimp only|split)
theorem aA.sliceAt (t:TypeId)(x:Value)(lo hi mx:Option Value):aA P (Instr.sliceAt t x lo hi mx):=by
 unfold Instr.sliceAt
 repeat' (first|exact aA.sliceBounds _ _ _ _ _ _|exact aA.slice _ _ _ _ _|(first|exact aA.pure _|exact aA.pure' _|exact aA.halt _|exact cv.noW (cv.boundsPanic _ _ _ _)|exact cv.noW (cv.runtimePanic _)|exact aA.prog|exact aA.underlying _|exact aA.sizeOf _|exact aA.asIntOf _|exact aA.sureAddr _|exact aA.asBool _)|(refine aA.bind ?_ fun _=>?_)|dsimp only|split)
def Rt (P:Program)(s:TypeId)(i:Nat):Bool:=
 match P.underlying s with
 |some (.struct fs)=>(match fs[i]? with
  |some f=>(match P.info? f.type with|some d=> !Nat.beq d.size 0|none=>false)
  |none=>false)
 |_=>false
theorem aA.fieldAt {s:TypeId}{i:Nat}(h:Rt P s i=true)(a:Value):aA P (Instr.fieldAt s a i):=by
 unfold Instr.fieldAt;refine .bind' (.underlying _) fun d hd=>?_;have hu:P.underlying s=some d:=by
  have:=hd default;unfold Go.underlying at this;rw[Sem.run_bind] at this;change Result.andThen (.ok P default) _=_ at this;simp only[Result.andThen_ok] at this;cases hp:P.underlying s with
  |none=>rw[hp] at this;cases this
  |some d'=>
   rw[hp] at this;change Result.ok d' default=_ at this;cases this;rfl
 unfold Rt at h;rw[hu] at h;cases d<;>dsimp only at h ⊢<;>try (first|exact aA.pure _|exact aA.pure' _|exact aA.halt _|exact cv.noW (cv.boundsPanic _ _ _ _)|exact cv.noW (cv.runtimePanic _)|exact aA.prog|exact aA.underlying _|exact aA.sizeOf _|exact aA.asIntOf _|exact aA.sureAddr _|exact aA.asBool _)
 rename_i fs;cases hf:fs[i]? with
 |none=>dsimp only;(first|exact aA.pure _|exact aA.pure' _|exact aA.halt _|exact cv.noW (cv.boundsPanic _ _ _ _)|exact cv.noW (cv.runtimePanic _)|exact aA.prog|exact aA.underlying _|exact aA.sizeOf _|exact aA.asIntOf _|exact aA.sureAddr _|exact aA.asBool _)
 |some f=>
  rw[hf] at h;dsimp only at h ⊢;refine .bind (.sureAddr _) fun a=>.bind ?_ fun _=>.pure _;unfold Go.fieldPlace;refine .bind' (.sizeOf _) fun n hn=>?_;have hz:n≠0:=by
   intro e;have:=hn default;unfold Go.sizeOf Go.typeInfo at this;cases hi:P.info? f.type with
   |none=>rw[hi] at h;cases h
   |some inf=>
    rw[hi] at h;rw[Sem.run_bind,Sem.run_bind] at this;change Result.andThen (Result.andThen (.ok P default) _) _=_ at this;simp only[Result.andThen_ok,hi] at this;change Result.ok inf.size default=_ at this;cases this;dsimp only at h;rw[e] at h;cases h
  rw[if_neg hz]
  (first|exact aA.pure _|exact aA.pure' _|exact aA.halt _|exact cv.noW (cv.boundsPanic _ _ _ _)|exact cv.noW (cv.runtimePanic _)|exact aA.prog|exact aA.underlying _|exact aA.sizeOf _|exact aA.asIntOf _|exact aA.sureAddr _|exact aA.asBool _)
def D6 (P:Program):Op→Bool
 |.move _=>true
 |.assign _=>true
 |.pick ..=>true
 |.fieldAddr s _ i=>Rt P s i
 |.indexAddr ..=>true
 |.slice ..=>true
 |_=>false
theorem anH {o:Oper}(hp:D6 P o.op=true)(ρ:Operand→Value):(∃v,∀w,(execOp ρ o).run P w=.ok (.value v) w)∨∀w,∃h w',(execOp ρ o).run P w=.halt h w':=by
 have key:∀s:Sem Value,aA P s→(∃v,∀w,(do Pure.pure (Next.value (←s)):Sem Next).run P w=.ok (.value v) w)∨∀w,∃h w',(do Pure.pure (Next.value (←s)):Sem Next).run P w=.halt h w':=by
  intro s hs;rcases hs with⟨a,ha⟩|hd
  ·exact .inl ⟨a,fun w=>by rw[Sem.run_bind,ha w];rfl⟩
  ·refine .inr fun w=>?_;obtain⟨x,w',e⟩:=hd w;exact⟨x,w',by rw[Sem.run_bind,e];rfl⟩
 obtain⟨dst,op,type,pos,after,guard⟩:=o;cases op<;>first|(cases hp;done)|skip
 case move x=>exact .inl ⟨_,fun w=>rfl⟩
 case assign x=>exact .inl ⟨_,fun w=>rfl⟩
 case pick c a b=>
  have:=key (do Pure.pure (if←Go.asBool (ρ c) then ρ a else ρ b)) (.bind (.asBool _) fun _=>.pure _);simp only[execOp];rcases aA.asBool (P:=P) (ρ c) with⟨t,ht⟩|hd
  ·exact .inl ⟨_,fun w=>by rw[Sem.run_bind,ht w];rfl⟩
  ·refine .inr fun w=>?_;obtain⟨x,w',e⟩:=hd w;exact⟨x,w',by rw[Sem.run_bind,e];rfl⟩
 case fieldAddr s x i=>exact key _ (.fieldAt hp _)
 case indexAddr t x i=>exact key _ (.indexAt _ _ _)
 case slice t x lo hi mx=>exact key _ (.sliceAt _ _ _ _ _)
theorem anI {rd:Option Nat}{ops:Array Oper}{i:Nat}{o:Oper}{a:Act}{w:World}{K:Act→World→Prop}(hi:ops[i]?=some o)(hp:D6 P o.op=true)
 (h:wpOpIn (FR rd) 0 P ops (fun _ _ _=>False) i K a w):∃v,YieldsFenced P ops o v a∧K (a.put o.dst v) w:=by
 have bj:∀c,o.op≠.defer c:=fun c e=>by rw[e] at hp;cases hp
 have Cz:∀w,o.about P w a.eval=none:=fun w=>by
  unfold Oper.about;cases ho:o.op<;>first|rfl|(rw[ho] at hp;cases hp)
 unfold wpOpIn at h;rw[hi] at h;dsimp only at h;cases hw:Region.wanted o (yielded ops a.tmps) with
 |false=>
  rw[hw] at h;exact⟨undef,⟨.inr ⟨hw,rfl⟩,Cz⟩,h.2⟩
 |true=>
  rw[hw,if_pos rfl] at h;have h2:=h.2;rw[Oper.semAt_eq _ _ _ bj] at h2;rcases anH hp a.eval with⟨v,hv⟩|hd
  ·rw[hv w] at h2;exact⟨v,⟨.inl ⟨hw,hv⟩,Cz⟩,h2⟩
  ·obtain⟨x,w',e⟩:=hd w;rw[e] at h2;cases x<;>exact h2.elim
section
variable {F:Fence} {n:Nat} {ops:Array Oper} {Q:Exit→Act→World→Prop} {md:Region.Mode}
theorem YF.wpOpIn {i:Nat}{o:Oper}{v:Value}{a:Act}(bj:oO o.op=true)(hi:ops[i]?=some o)(hy:YieldsFenced P ops o v a)
 {K:Act→World→Prop} {w:World} (h:K (a.put o.dst v) w):wpOpIn F n P ops Q i K a w:=by
 have j9:∀c,o.op≠.defer c:=fun c e=>by rw[e] at bj;cases bj
 unfold Go.wpOpIn;simp only[hi];have Cz:∀f,o.about P w a.eval=some f→F.fn f:=fun f hf=>by rw[hy.2 w] at hf;cases hf
 rcases hy.1 with⟨hw,hv⟩|⟨hw,rfl⟩
 ·simp only[hw,if_true,Oper.wpIn,Oper.semAt_eq _ _ _ j9,hv w,Oper.uponIn];exact⟨Cz,h⟩
 ·simp only[hw,tK,if_false];exact⟨Cz,h⟩
theorem arL {j:Nat}{oi oj:Oper}{v:Value}(bj:oO oj.op=true)(hj:ops[j]?=some oj)(M3:oi.apart ops oj=true)
 (hsi:∀cs b,oi.op≠.select cs b) (hsj:∀cs b,oj.op≠.select cs b)
 (hQ:∀c a w,Q (.panic c) (a.put oi.dst v) w→Q (.panic c) a w) {K:Act→World→Prop} {a:Act} {w:World}
 (hy:YieldsFenced P ops oi v a) (h:wpOpIn F n P ops Q j K (a.put oi.dst v) w):
 wpOpIn F n P ops Q j (fun a' w'=>YieldsFenced P ops oi v a'∧K (a'.put oi.dst v) w') a w:=by
 have j9:∀c,oj.op≠.defer c:=fun c e=>by rw[e] at bj;cases bj
 obtain⟨h1,h2,h3⟩:=Oper.apart_spec M3;have keep:∀(a:Act),YieldsFenced P ops oi v a→∀u,YieldsFenced P ops oi v (a.put oj.dst u):=fun a hy u=>
  hy.of_same (execOp_put oi hsi a oj.dst u h3) (wanted_put oi a oj.dst u h3) (fun w=>about_put oi w a oj.dst u h3)
 have akO:∀d,YieldsFenced P ops oi v {a with defers:=d::a.defers}:=fun d=>hy.of_same rfl rfl (fun _=>rfl);unfold Go.wpOpIn at*;simp only[hj] at*;rw[wanted_put oj a oi.dst v h1,about_put oj w a oi.dst v h1] at h;split
 ·rename_i hw;simp only[hw,if_true] at h;unfold Oper.wpIn at*;rw[about_put oj w a oi.dst v h1] at h;refine⟨h.1,?_⟩;have h:=h.2;rw[Oper.semAt_eq _ _ _ j9,execOp_put oj hsj a oi.dst v h1] at h;rw[Oper.semAt_eq _ _ _ j9];generalize (execOp a.eval oj).run P w=r at*;cases r with
  |ok x w'=>
   cases x<;>simp only[Oper.uponIn] at h ⊢
   case value u=>exact⟨keep a hy u,by rw[←Act.put_comm a v u h2];exact h⟩
   case skip=>exact⟨keep a hy _,by rw[←Act.put_comm a v undef h2];exact h⟩
   case defer d=>
        refine⟨keep _ (akO d) _,?_⟩;rw[←Act.put_comm _ v undef h2,←Act.put_defers];exact h
   case enter f args=>
        refine⟨h.1,CallsIn.mono h.2 fun e kO he=>?_⟩;cases e with
        |returned u=>exact⟨keep a hy u,by rw[←Act.put_comm a v u h2];exact he⟩
        |panicked c=>exact hQ _ _ _ he
        |outgrown=>exact he
   case row row args=>exact⟨h.1,RowsIn.mono h.2 fun u kO he=>⟨keep a hy u,by rw[←Act.put_comm a v u h2];exact he⟩⟩
   case round l f tmps assign body=>
        refine⟨h.1,RoundIn.mono h.2 fun e kO he=>?_⟩;cases e with
        |returned u=>exact⟨keep a hy u,by rw[←Act.put_comm a v u h2];exact he⟩
        |panicked c=>exact hQ _ _ _ he
        |outgrown=>exact he
  |halt x w'=>
   cases x<;>simp only[Oper.uponIn] at h ⊢
   case panic u=>exact hQ _ _ _ h
 ·rename_i hw;simp only[hw] at h;exact⟨h.1,keep a hy _,by rw[←Act.put_comm a v undef h2];exact h.2⟩
theorem arK {i:Nat}{oi:Oper}{v:Value}(bj:∀(j:Nat) (o:Oper),ops[j]?=some o→oO o.op=true)(hi:ops[i]?=some oi)(zP:∀(j:Nat) (o:Oper) cs b,ops[j]?=some o→o.op≠.select cs b)
 (hQ:∀c a w,Q (.panic c) (a.put oi.dst v) w→Q (.panic c) a w):
 ∀(fuel:Nat) (listed:Array Bool) (a:Act) (w:World),
  (∀j oj,ops[j]?=some oj→j≠i→listed.getD j true=false→(∀e∈oj.after,Region.binds md e=true→e.on≠i)→oi.apart ops oj=true)→
  i∈Region.ready md ops listed→YieldsFenced P ops oi v a→
  wpAnyIn F n P md ops Q fuel (listed.setIfInBounds i true) (a.put oi.dst v) w→wpAnyIn F n P md ops Q (fuel+1) listed a w:=by
 intro fuel
 induction fuel with
 |zero=>
  intro listed a w _ hr hy H;refine⟨fun h=>(by rw[h] at hr;cases hr),fun j hj=>?_⟩;by_cases eX:j=i
  ·subst eX;exact YF.wpOpIn (bj _ _ hi) hi hy H
  ·have:=ready_mono hj eX;rw[H.1] at this;cases this
 |succ fuel ih=>
  intro listed a w nA hr hy H;refine⟨fun h=>(by rw[h] at hr;cases hr),fun j hj=>?_⟩;by_cases eX:j=i
  ·subst eX;exact YF.wpOpIn (bj _ _ hi) hi hy H
  ·have h1:=H.2 j (ready_mono hj eX);obtain⟨WV,oj,rk,aF⟩:=mem_ready.1 hj
   have NL:∀e∈oj.after,Region.binds md e=true→e.on≠i:=fun e he hb heq=>by
        have h1:=aF e he hb;have h0:=(mem_ready.1 hr).1;rw[heq] at h1;rcases FU i listed.size with h'|h'
        ·simp[h'] at h0 h1;rw[h0] at h1;cases h1
        ·simp[Array.getElem?_eq_none h'] at h1
   have h2:=arL (bj _ _ rk) rk (nA j oj rk eX WV NL) (fun cs b=>zP i oi cs b hi) (fun cs b=>zP j oj cs b rk) hQ hy h1;have aiG:∀k ok,ops[k]?=some ok→k≠i→(listed.setIfInBounds j true).getD k true=false→
    (∀e∈ok.after,Region.binds md e=true→e.on≠i)→oi.apart ops ok=true:=fun k ok hk hki nG eY=>by
        refine nA k ok hk hki ?_ eY;by_cases H9:j=k
        ·subst H9;exact WV
        ·rw[getD_set_ne true H9] at nG;exact nG
   refine wpOpIn_mono (fun a' w' h3=>ih (listed.setIfInBounds j true) a' w' aiG (ready_mono hr (sf eX)) h3.1 ?_) h2;rw[Array.setIfInBounds_comm _ _ eX];exact h3.2
end
end
def sq (P:Program)(ops:Array Oper):List (Option (List Nat)):=(List.range ops.size).map fun i=>match ops[i]? with
 |some oi=>bif D6 P oi.op then some ((List.range ops.size).filter fun j=> !(Nat.beq j i||(match ops[j]? with|some oj=>(oj.after.toList.any fun e=>Region.binds .any e&&Nat.beq e.on i)||oi.apart ops oj|none=>true))) else none
 |none=>none
def A1 (bad:List (Option (List Nat)))(E:Nat):List Nat→Option Nat
 |[]=>none
 |i::l=>match bad.getD i none with
  |some b=>bif b.all (au E) then some i else A1 bad E l
  |none=>A1 bad E l
def O7 (ops:Array Oper):Bool:=ops.toList.all fun o=>match o.op with|.select ..=>false|_=>true
theorem Kt {bad:List (Option (List Nat))}{E:Nat}:∀{l:List Nat} {i:Nat},A1 bad E l=some i→i∈l∧∃b,bad.getD i none=some b∧b.all (au E)=true
 |[],_,h=>by cases h
 |i::l,j,h=>by
  unfold A1 at h;split at h
  ·rename_i b hb;cases hc:b.all (au E) with
   |true=>
    rw[hc] at h;cases h;exact⟨dR ..,b,hb,hc⟩
   |false=>
    rw[hc] at h;obtain⟨h1,h2⟩:=Kt h;exact⟨dK _ h1,h2⟩
  ·obtain⟨h1,h2⟩:=Kt h;exact⟨dK _ h1,h2⟩
theorem adP {P:Program}{ops:Array Oper}{i:Nat}{b:List Nat}(h:(sq P ops).getD i none=some b):∃oi,ops[i]?=some oi∧D6 P oi.op=true∧
 ∀j oj,ops[j]?=some oj→j≠i→j∉b→(∀e∈oj.after,Region.binds .any e=true→e.on≠i)→oi.apart ops oj=true:=by
 unfold sq at h;rw[aH,cK] at h;by_cases hi:i<ops.size
 ·rw[qK hi] at h;simp only[kU,nr] at h;rw[eC hi] at h;dsimp only at h;cases hp:D6 P ops[i].op<;>rw[hp] at h<;>simp only[cond_true,cond_false] at h
  ·cases h
  injection h with h
  refine⟨ops[i],eC hi,hp,fun j oj hj eX H8 eY=>?_⟩;have ae:j<ops.size:=(dI.1 hj).1;rw[←h] at H8;have h2:¬(!(Nat.beq j i||(match ops[j]? with|some oj=>(oj.after.toList.any fun e=>Region.binds .any e&&Nat.beq e.on i)||ops[i].apart ops oj|none=>true)))=true:=fun hc=>H8 (cS.2 ⟨cr.2 ae,hc⟩);rw[hj,fu eX] at h2;simp only[qG,iy,Bool.not_eq_false,gF] at h2;rcases h2 with h2|h2
  ·obtain⟨e,he,hb⟩:=vM.1 h2;rw[aj] at hb;exact absurd (cX hb.2) (eY e (by simpa using he) hb.1)
  ·exact h2
 ·rw[rX (by simpa using hi)] at h;cases h
def DH (E:Nat)(T:Snap):List (Nat×Snap)→Option (List (Nat×Snap))
 |[]=>some [(E,T)]
 |x::l=>bif Nat.beq x.1 E then(bif x.2.beq T then some (x::l) else none) else(DH E T l).map (x::·)
def ml (ops:Array Oper)(E:Nat):List Nat:=
 (List.range ops.size).filter fun i=> !au E i&&(match ops[i]? with|some o=>o.after.toList.all fun e=> !Region.binds .any e||au E e.on|none=>false)
def PJ (C:Ctx)(ops:Array Oper)(n:Nat)(ids:List Nat)(X:List (List PI))(nc:List (List Nat))(E:Nat)(T:Snap)(i:Nat):Option (Nat×Snap):=
 match ops[i]? with
 |some o=>(pA C (T.stO ids) ops o).bind fun r=>
  bif PI.beqs r.2 (X.getD i [])&&(nc.getD i []).all (au E) then some (Nat.lor E (ed i),⟨vt (lE r.1) r.1 T.rs o.dst.toList,ids.map fun j=>iV r.1 (r.1.o j)⟩) else none
 |none=>none
def Fm (one:Nat→Option (Nat×Snap)):List Nat→List (Nat×Snap)→Option (List (Nat×Snap))
 |[],acc=>some acc
 |i::l,acc=>(one i).bind fun x=>x.2.hard fun T=>(DH x.1 T acc).bind fun acc=>Fm one l acc
def pz (ops:Array Oper)(bad:List (Option (List Nat)))(E:Nat):List Nat:=
 match A1 bad E (ml ops E) with
 |some i=>[i]
 |none=>ml ops E
def DN (ops:Array Oper)(bad:List (Option (List Nat)))(one:Nat→Snap→Nat→Option (Nat×Snap)):List (Nat×Snap)→List (Nat×Snap)→Option (List (Nat×Snap))
 |[],acc=>some acc
 |x::l,acc=>
  match pz ops bad x.1 with
  |[]=>none
  |rs=>(Fm (one x.1 x.2) rs acc).bind fun acc=>DN ops bad one l acc
def Fb (ops:Array Oper)(bad:List (Option (List Nat)))(one:Nat→Snap→Nat→Option (Nat×Snap)):Nat→List (Nat×Snap)→Option Snap
 |0,L=>
  match L with
  |[x]=>bif (List.range ops.size).all (au x.1) then some x.2 else none
  |_=>none
 |k+1,L=>(DN ops bad one L []).bind fun L=>Fb ops bad one k L
theorem XT {E:Nat}{T:Snap}:∀{l l':List (Nat×Snap)},DH E T l=some l'→(E,T)∈l'∧∀x,x∈l→x∈l'
 |[],l',h=>by simp only[DH,aR] at h;subst h;simp
 |x::l,l',h=>by
  simp only[DH] at h;cases hb:Nat.beq x.1 E<;>simp only[hb,cond_true,cond_false] at h
  ·simp only[ax] at h;obtain⟨l2,h2,rfl⟩:=h;obtain⟨h3,h4⟩:=XT h2;exact⟨dK _ h3,fun y hy=>(cW.1 hy).elim (fun e=>e▸dR ..) fun hm=>dK _ (h4 y hm)⟩
  ·cases hs:x.2.beq T<;>simp only[hs,cond_true,cond_false] at h
   ·cases h
   ·cases h;refine⟨?_,fun y hy=>hy⟩;have e1:=cX hb;have e2:=Snap.beq_eq _ _ hs;subst e1;subst e2;simp
theorem ab6 {one:Nat→Option (Nat×Snap)}:∀{rs:List Nat} {acc Bn:List (Nat×Snap)},Fm one rs acc=some Bn→(∀x,x∈acc→x∈Bn)∧∀i,i∈rs→∃x,one i=some x∧x∈Bn
 |[],acc,Bn,h=>by simp only[Fm,aR] at h;subst h;simp
 |i::rs,acc,Bn,h=>by
  simp only[Fm,Snap.hard_eq,ao] at h;obtain⟨x,hx,ac9,h1,h2⟩:=h;obtain⟨h3,h4⟩:=XT h1;obtain⟨h5,h6⟩:=ab6 h2;refine⟨fun y hy=>h5 y (h4 y hy),fun j hj=>?_⟩;rcases cW.1 hj with e|hm
  ·subst e;exact⟨x,hx,h5 _ h3⟩
  ·exact h6 j hm
theorem Ya {ops:Array Oper}{bad:List (Option (List Nat))}{one:Nat→Snap→Nat→Option (Nat×Snap)}:∀{L acc L':List (Nat×Snap)},DN ops bad one L acc=some L'→
 (∀x,x∈acc→x∈L')∧∀x,x∈L→pz ops bad x.1≠[]∧∀i,i∈pz ops bad x.1→∃y,one x.1 x.2 i=some y∧y∈L'
 |[],acc,L',h=>by simp only[DN,aR] at h;subst h;simp
 |x::L,acc,L',h=>by
  simp only[DN] at h;split at h
  ·cases h
  ·rename_i ay;simp only[ao] at h;obtain⟨ac9,h1,h2⟩:=h;obtain⟨h3,h4⟩:=ab6 h1;obtain⟨h5,h6⟩:=Ya h2;refine⟨fun y hy=>h5 y (h3 y hy),fun y hy=>?_⟩;rcases cW.1 hy with e|hm
   ·subst e;refine⟨fun e=>ay e,fun i hi=>?_⟩;obtain⟨z,hz,hm⟩:=h4 i hi;exact⟨z,hz,h5 z hm⟩
   ·exact h6 y hm
def fc (X:List (List PI))(l:List Nat)(E:Nat):List PI:=l.flatMap fun i=>bif au E i then[] else X.getD i []
theorem Rd {X:List (List PI)}{E E':Nat}:∀(l:List Nat),(∀i,i∈l→au E i=au E' i)→fc X l E=fc X l E'
 |[],_=>rfl
 |i::l,h=>by
  have ih:=Rd (X:=X) l fun j hj=>h j (dK _ hj);unfold fc at ih ⊢;simp only[rV];rw[ih,h i (dR ..)]
theorem Foot.comm_each {a b:List PI}(h:(iL a).comm (iL b)=true):∀p q,p∈a→q∈b→Comm p q:=by
 simp only[Foot.comm,aj] at h;obtain⟨h1,h2,h3,h4,h5,h6⟩:=h;intro p q hp hq;obtain⟨p1,p2,p3,p4⟩:=VX hp;obtain⟨q1,q2,q3,q4⟩:=VX hq;exact⟨fun t x y=>OI h1 (p1 t x) (q1 t y),fun t x y=>OI h2 (p1 t x) (q3 t y),fun t x y=>OI h3 (q1 t x) (p3 t y),fun t x y=>Ln h4 (p2 t x) (q2 t y),fun t x y=>Ln h5 (p2 t x) (q4 t y),fun t x y=>Ln h6 (q2 t x) (p4 t y)⟩
def qm (X:List (List PI))(N:Nat):List (List Nat):=
 (List.range N).map fun i=>(List.range i).filter fun j=> !(iL (X.getD j [])).comm (iL (X.getD i []))
theorem jC (E i j:Nat):au (Nat.lor E (ed i)) j=(au E j||Nat.beq i j):=by
 rw[fN]
 congr 1
 rw[su];show(1<<<i).testBit j=_;rw[Nat.testBit_shiftLeft];by_cases h:i=j
 ·subst h;simp
 ·have h1:Nat.beq i j=false:=fu h;rw[h1];by_cases h2:i≤j
  ·have:j-i≠0:=by omega
   cases hk:j-i with
   |zero=>omega
   |succ k=>
    have:(1:Nat).testBit (k+1)=false:=by simp[Nat.testBit_succ]
    simp[this]
  ·simp[h2]
theorem abA {X:List (List PI)}{N E i:Nat}(hi:i<N)(hb:au E i=false)(dp:((qm X N).getD i []).all (au E)=true)(Φ:aV)(ρ:Env):
 PI.runs Φ (fc X (List.range N) E) ρ=(PI.runs Φ (X.getD i []) ρ).bind (PI.runs Φ (fc X (List.range N) (Nat.lor E (ed i)))):=by
 obtain⟨l1,l2,hl⟩:=TY (cr.2 hi);have hp:=List.pairwise_lt_range (n:=N);rw[hl,FM] at hp;obtain⟨_,fR,hp3⟩:=hp;rw[vO] at fR;have Yu:∀j,j∈l1→j<i:=fun j hj=>hp3 j hj i (dR ..);have lt2:∀j,j∈l2→i<j:=fun j hj=>fR.1 j hj;have e0:∀E,fc X (l1++i::l2) E=fc X l1 E++((bif au E i then[] else X.getD i [])++fc X l2 E):=fun E=>by simp[fc]
 have e1:fc X l1 (Nat.lor E (ed i))=fc X l1 E:=Rd l1 fun j hj=>by
  rw[jC,fu (by have:=Yu j hj;omega),tL]
 have e2:fc X l2 (Nat.lor E (ed i))=fc X l2 E:=Rd l2 fun j hj=>by
  rw[jC,fu (by have:=lt2 j hj;omega),tL]
 have e3:au (Nat.lor E (ed i)) i=true:=by rw[jC,iI,nY]
 rw[hl,e0,e0,e1,e2,e3,hb];simp only[cond_true,cond_false,sd]
 have ail:PI.runs Φ (fc X l1 E++X.getD i [])=PI.runs Φ (X.getD i []++fc X l1 E):=funext fun ρ=>PI.comms _ _ (fun p q hp hq=>by
  unfold fc at hp;obtain⟨j,hj,hp⟩:=jb.1 hp;cases pP:au E j<;>simp only[pP,cond_true,cond_false] at hp
  case true=>cases hp
  have hc:(iL (X.getD j [])).comm (iL (X.getD i []))=true:=by
   cases lh:(iL (X.getD j [])).comm (iL (X.getD i [])) with
   |true=>rfl
   |false=>
    have pW:(qm X N).getD i []=(List.range i).filter fun j=> !(iL (X.getD j [])).comm (iL (X.getD i [])):=by
     unfold qm;rw[aH,cK,qK hi];rfl
    rw[pW] at dp;have:=bz.1 dp j (cS.2 ⟨cr.2 (Yu j hj),by rw[lh];rfl⟩);rw[pP] at this;cases this
  exact Foot.comm_each hc p q hp hq) ρ
 rw[←ja,pf,ail];have:=pf (Φ:=Φ) (a:=X.getD i []) (b:=fc X l1 E) (ρ:=ρ);rw[this,Option.bind_assoc]
 congr 1
 funext ρ1;rw[pf]
def nS (C:Ctx)(ops:Array Oper):List Nat→St→Option (List (List PI))
 |[],_=>some []
 |i::l,S=>
  match ops[i]? with
  |some o=>(pA C S ops o).bind fun r=>(nS C ops l r.1).map fun q=>r.2::q
  |none=>none
def V5 (ops:Array Oper):Bool:=(List.range ops.size).all fun i=>match ops[i]? with
 |some o=>(match o.guard with|some (j,_)=>Nat.blt j i|none=>true)
 |none=>true
def zo (ops:Array Oper):Bool:=ops.toList.all fun o=>match o.guard with
 |some (j,_)=>o.after.toList.any fun e=>Region.binds .any e&&Nat.beq e.on j
 |none=>true
def bC:Operand→List Nat
 |.tmp t=>[t]
 |_=>[]
def A5:Option Operand→List Nat
 |some x=>bC x
 |none=>[]
def mc:Op→List Nat
 |.move x=>bC x
 |.assign x=>bC x
 |.unOp _ _ x=>bC x
 |.convert _ _ x=>bC x
 |.load _ x=>bC x
 |.fieldAddr _ x _=>bC x
 |.field _ x _=>bC x
 |.extract x _=>bC x
 |.nilCheck x=>bC x
 |.pick c x y=>bC c++bC x++bC y
 |.binOp _ _ x y _=>bC x++bC y
 |.indexAddr _ x i=>bC x++bC i
 |.index _ x i=>bC x++bC i
 |.lookup _ m k _=>bC m++bC k
 |.slice _ x lo hi _=>bC x++A5 lo++A5 hi
 |.build _ ps=>ps.toList.flatMap fun p=>bC p.2
 |.call c=>(match c.callee with|.value x=>bC x|_=>[])++c.args.toList.flatMap bC
 |.store _ x v=>bC x++bC v
 |.mapUpdate _ m k v=>bC m++bC k++bC v
 |_=>[]
def Hw (ops:Array Oper)(o:Oper):List Nat:=
 match o.guard with
 |some (j,_)=>(match(ops[j]?).bind (·.dst) with|some t=>[t]|none=>[])
 |none=>[]
def St.withR (S:St)(f:Nat→Sh):St:=⟨f,S.o,S.ver⟩
section
variable {C:Ctx} {S:St} {f:Nat→Sh} {gs:List (Nat×Bool)} {dst:Nat}
theorem AX {t:Nat}(h:f t=S.r t):kM (S.withR f) gs t=kM S gs t:=by
 have e:(S.withR f).r t=S.r t:=h;unfold kM;rw[e]
theorem tE {x:Operand}(h:∀t,t∈bC x→f t=S.r t):fp (S.withR f) gs x=fp S gs x:=by
 cases x<;>first|rfl|exact AX (h _ (lL.2 rfl))
theorem L6:∀(l:List Sh) (j:PE) (i:Nat),qQ (S.withR f) j l i=qQ S j l i
 |[],_,_=>rfl
 |s::l,j,i=>by simp only[qQ];rw[L6 l j (i+1)];rfl
theorem Lj:∀(l:List AgC),vX (S.withR f) l=vX S l
 |[]=>rfl
 |.dat _::l=>Lj l
 |.obj j ver::l=>by simp only[vX];rw[Lj l];rfl
theorem Uw:∀(l:List Sh),tX (S.withR f) l=tX S l
 |[]=>rfl
 |s::l=>by simp only[tX];rw[Uw l];rfl
theorem eJ {x:Operand}(h:∀t,t∈bC x→f t=S.r t):use C (S.withR f) gs x=use C S gs x:=by
 cases x<;>first|rfl|(unfold use;simp only;rw[AX (h _ (lL.2 rfl))];simp only[L6];rfl)
theorem acr {x:Operand}(h:∀t,t∈bC x→f t=S.r t):view C (S.withR f) gs x=view C S gs x:=by
 unfold view;rw[eJ h];cases x<;>first|rfl|(simp only;rw[AX (h _ (lL.2 rfl))];rfl)
theorem TC:∀{xs:List Operand},(∀t,t∈xs.flatMap bC→f t=S.r t)→kN C (S.withR f) gs xs=kN C S gs xs
 |[],_=>rfl
 |x::xs,h=>by
  simp only[kN]
  rw[eJ fun t ht=>h t (jb.2 ⟨x,dR ..,ht⟩),TC fun t ht=>by
   obtain⟨y,hy,nH⟩:=jb.1 ht;exact h t (jb.2 ⟨y,dK _ hy,nH⟩)]
theorem ark {x:Option Operand}(h:∀t,t∈A5 x→f t=S.r t):Ft C (S.withR f) gs x=Ft C S gs x:=by
 cases x with
 |none=>rfl
 |some x=>exact eJ h
theorem ari {e:PE}{x:Option Operand}(h:∀t,t∈A5 x→f t=S.r t):Fs C (S.withR f) gs e x=Fs C S gs e x:=by
 cases x with
 |none=>rfl
 |some x=>exact eJ h
theorem rz:∀{xs:List Operand},(∀t,t∈xs.flatMap bC→f t=S.r t)→bR (S.withR f) gs xs=bR S gs xs
 |[],_=>rfl
 |x::xs,h=>by
  simp only[bR]
  rw[tE fun t ht=>h t (jb.2 ⟨x,dR ..,ht⟩),rz fun t ht=>by
   obtain⟨y,hy,nH⟩:=jb.1 ht;exact h t (jb.2 ⟨y,dK _ hy,nH⟩)]
  simp only[Lj];rfl
theorem jQ {P:Nat→Prop}{a b:List Nat}(h:∀t,t∈a++b→P t):(∀t,t∈a→P t)∧∀t,t∈b→P t:=
 ⟨fun t ht=>h t (jX _ ht),fun t ht=>h t (kj _ ht)⟩
theorem aah {x:Operand}(h:∀t,t∈bC x→f t=S.r t):qo C (S.withR f) gs dst x=qo C S gs dst x:=by
 unfold qo;rw[eJ h];cases x<;>first|rfl|(simp only;rw[AX (h _ (lL.2 rfl))])
theorem am2 {c x y:Operand}(h:∀t,t∈bC c++bC x++bC y→f t=S.r t):Ar C (S.withR f) gs dst c x y=Ar C S gs dst c x y:=by
 obtain⟨h1,h3⟩:=jQ h;obtain⟨h1,h2⟩:=jQ h1;unfold Ar;cases c<;>first|rfl|skip
 simp only;rw[AX (h1 _ (lL.2 rfl)),eJ h2,eJ h3]
theorem amD {op:BinOp}{T:TypeId}{x y:Operand}(h:∀t,t∈bC x++bC y→f t=S.r t):Ag C (S.withR f) gs dst op T x y=Ag C S gs dst op T x y:=by
 obtain⟨h1,h2⟩:=jQ h;unfold Ag;rw[eJ h1,eJ h2]
theorem am7 {op:UnOp}{x:Operand}(h:∀t,t∈bC x→f t=S.r t):At C (S.withR f) gs dst op x=At C S gs dst op x:=by unfold At;rw[eJ h]
theorem amH {s d:TypeId}{x:Operand}(h:∀t,t∈bC x→f t=S.r t):Ai C (S.withR f) gs dst s d x=Ai C S gs dst s d x:=by unfold Ai;rw[eJ h]
theorem amU {T:TypeId}{x:Operand}(h:∀t,t∈bC x→f t=S.r t):Ao C (S.withR f) gs dst T x=Ao C S gs dst T x:=by unfold Ao;rw[acr h]
theorem aaf {b:Bool}{x y:Operand}(h:∀t,t∈bC x++bC y→f t=S.r t):xp C (S.withR f) gs dst b x y=xp C S gs dst b x y:=by
 obtain⟨h1,h2⟩:=jQ h;unfold xp;rw[eJ h1,eJ h2]
theorem amW {T:TypeId}{x:Operand}(h:∀t,t∈bC x→f t=S.r t):tg C (S.withR f) gs dst T x=tg C S gs dst T x:=by
 unfold tg;rw[tE h,eJ h];simp only[L6,Uw];rfl
theorem amL {T:TypeId}{x:Operand}{i:Nat}(h:∀t,t∈bC x→f t=S.r t):Al C (S.withR f) gs dst T x i=Al C S gs dst T x i:=by
 unfold Al;rw[tE h,eJ h];rfl
theorem amN {T:TypeId}{x:Operand}{i:Nat}(h:∀t,t∈bC x→f t=S.r t):Ak C (S.withR f) gs dst T x i=Ak C S gs dst T x i:=by unfold Ak;rw[eJ h]
theorem amQ {T:TypeId}{x i:Operand}(h:∀t,t∈bC x++bC i→f t=S.r t):An C (S.withR f) gs dst T x i=An C S gs dst T x i:=by
 obtain⟨h1,h2⟩:=jQ h;unfold An;rw[eJ h1,eJ h2,tE h1];rfl
theorem amS {T:TypeId}{x i:Operand}(h:∀t,t∈bC x++bC i→f t=S.r t):Am C (S.withR f) gs dst T x i=Am C S gs dst T x i:=by
 obtain⟨h1,h2⟩:=jQ h;unfold Am;rw[eJ h1,eJ h2]
theorem amJ {x:Operand}{i:Nat}(h:∀t,t∈bC x→f t=S.r t):Aj C (S.withR f) gs dst x i=Aj C S gs dst x i:=by unfold Aj;rw[eJ h]
theorem amY {T:TypeId}{m k:Operand}{ok:Bool}(h:∀t,t∈bC m++bC k→f t=S.r t):Ap C (S.withR f) gs dst T m k ok=Ap C S gs dst T m k ok:=by
 obtain⟨h1,h2⟩:=jQ h;unfold Ap;rw[acr h1,eJ h2]
theorem am5 {T:TypeId}{x:Operand}{lo hi mx:Option Operand}(h:∀t,t∈bC x++A5 lo++A5 hi→f t=S.r t):As C (S.withR f) gs dst T x lo hi mx=As C S gs dst T x lo hi mx:=by
 obtain⟨h1,h3⟩:=jQ h;obtain⟨h1,h2⟩:=jQ h1;unfold As;rw[eJ h1];simp only[ark h2,ari h3]
theorem UQ {zs:List Value}{parts:List (Nat×Operand)}(h:∀t,t∈(parts.flatMap fun p=>bC p.2)→f t=S.r t):∀(fs:List Field) (i off:Nat),kW C (S.withR f) gs zs parts fs i off=kW C S gs zs parts fs i off
 |[],_,_=>rfl
 |g::fs,i,off=>by
  simp only[kW,UQ h fs];cases hp:parts.find? (fun p=>Nat.beq p.1 i) with
  |none=>rfl
  |some p=>
   have hu:∀ft,th C (S.withR f) gs ft p.2=th C S gs ft p.2:=fun ft=>by
        unfold th;rw[eJ fun t ht=>h t (jb.2 ⟨p,qL hp,ht⟩),tE fun t ht=>h t (jb.2 ⟨p,qL hp,ht⟩)];rfl
   simp only[hu]
theorem amF {T:TypeId}{ps:List (Nat×Operand)}(h:∀t,t∈(ps.flatMap fun p=>bC p.2)→f t=S.r t):Ah C (S.withR f) gs dst T ps=Ah C S gs dst T ps:=by
 unfold Ah;simp only[UQ h];split
 ·rfl
 ·split
  ·split
   ·rename_i x y;rw[eJ (x:=x) fun t ht=>h t (by simp[ht]),eJ (x:=y) fun t ht=>h t (by simp[ht])]
   ·rfl
  ·rfl
 ·rfl
theorem am0 {x:Operand}(h:∀t,t∈bC x→f t=S.r t):Aq C (S.withR f) gs dst x=Aq C S gs dst x:=by
 unfold Aq;rw[eJ h];cases x<;>first|rfl|(simp only;rw[AX (h _ (lL.2 rfl))];rfl)
def nw:Op→Bool
 |.move _|.pick ..|.binOp ..|.unOp ..|.convert ..|.load ..|.fieldAddr ..|.field ..|.indexAddr ..|.index ..|.extract ..|.lookup ..|.slice ..|.build ..|.nilCheck _|.makeInterface ..|.call _=>true
 |_=>false
theorem aaj {op:Op}(hq:nw op=true)(h:∀t,t∈mc op→f t=S.r t):oQ C (S.withR f) gs dst op=oQ C S gs dst op:=by
 cases op<;>simp only[nw] at hq<;>simp only[mc] at h<;>simp only[oQ]
 case move=>exact aah h
 case pick=>exact am2 h
 case binOp=>exact amD h
 case unOp=>exact am7 h
 case convert=>exact amH h
 case load=>exact amW h
 case fieldAddr=>exact amL h
 case field=>exact amN h
 case indexAddr=>exact amQ h
 case index=>exact amS h
 case extract=>exact amJ h
 case lookup=>exact amY h
 case slice=>exact am5 h
 case build=>exact amF h
 case nilCheck=>exact am0 h
 case call c=>
  obtain⟨_,h2⟩:=jQ h;split
  ·rename_i x T _ ha _;exact amU fun t ht=>h2 t (by rw[ha];simp[ht])
  ·rename_i x y _ ha;exact aaf fun t ht=>h2 t (by rw[ha];simpa using ht)
  ·rename_i x y _ ha;exact aaf fun t ht=>h2 t (by rw[ha];simpa using ht)
  ·rfl
 all_goals (cases hq;done)
theorem anB {op:Op}(h:∀t,t∈mc op→f t=S.r t)(hq:nw op=true):tn (S.withR f) gs op=tn S gs op:=by
 cases op<;>simp only[nw] at hq<;>simp only[mc] at h<;>simp only[tn]
 case build T ps=>exact rz fun t ht=>h t (by
  obtain⟨x,hx,dh⟩:=jb.1 ht;obtain⟨p,hp,rfl⟩:=ec.1 hx;exact jb.2 ⟨p,hp,dh⟩)
 case pick c x y=>
  obtain⟨h1,h3⟩:=jQ h;obtain⟨h1,h2⟩:=jQ h1;refine rz fun t ht=>?_;simp only[rV,T6,lK,cR] at ht;exact ht.elim (h2 t) (h3 t)
 case slice T x lo hi mx=>
  obtain⟨h1,h3⟩:=jQ h;obtain⟨h1,h2⟩:=jQ h1;exact rz fun t ht=>h1 t (by simpa using ht)
 all_goals first|rfl|(cases hq;done)
theorem anC {op:Op}(h:∀t,t∈mc op→f t=S.r t)(hq:nw op=true):pre C (S.withR f) gs op=pre C S gs op:=by
 have wP:=hq;cases op<;>simp only[nw] at hq<;>simp only[pre,anB h wP]
 case load T x=>simp only[mc] at h;rw[tE h];rfl
 all_goals first|(cases hq;done)|skip
theorem ahq {ops:Array Oper}{o:Oper}(h:∀t,t∈Hw ops o→f t=S.r t):pK (S.withR f) ops o=pK S ops o:=by
 unfold pK;cases hg:o.guard with
 |none=>rfl
 |some jw=>
  obtain⟨j,want⟩:=jw;simp only;cases ht:(ops[j]?).bind (·.dst) with
  |none=>rfl
  |some t=>
   simp only;have:(S.withR f).r t=S.r t:=h t (by unfold Hw;rw[hg];simp[ht]);rw[this]
end
def uZ (C:Ctx)(c:Callee):Bool:=
 match c with
 |.value (.func f)=>(match C.sig f with|some s=>s.res.pure|none=>false)
 |_=>false
def Cm (C:Ctx)(S:St)(gs:List (Nat×Bool))(dst:Nat)(op:Op):Option (Sh×List PI):=
 match op with
 |.assign x=>
  match gs with
  |[]=>bif C.fr.any (Nat.beq dst)&&(bR S [] [x]).isEmpty then(match qo C S [] dst x with|some r=>bif nJ r.1 then some r else none|none=>none) else none
  |_=>none
 |.call c=>
  match oQ C S gs dst (.call c) with
  |some r=>bif ry r.1&&jF gs (some dst) r.2 then some (jE gs r.1,r.2) else none
  |none=>
   bif (bR S gs c.args.toList).isEmpty||uZ C c.callee then
    match c.callee with
    |.value (.func f)=>(match pD C S gs dst f c.args.toList with|some r=>bif jF gs (some dst) r.2.2 then some (jE gs r.2.1,r.2.2) else none|none=>none)
    |.value x=>(match oo C S gs dst x c.args.toList with|some r=>bif jF gs (some dst) r.2.2 then some (jE gs r.2.1,r.2.2) else none|none=>none)
    |_=>none
   else none
 |op=>bif nw op&&(pre C S gs op).isEmpty then(match oQ C S gs dst op with|some r=>bif ry r.1&&jF gs (some dst) r.2 then some (jE gs r.1,r.2) else none|none=>none) else none
def Cn (C:Ctx)(S:St)(gs:List (Nat×Bool))(op:Op):Option (List PI):=
 match op,gs with
 |.store T x v,[]=>
  match fp S [] x with
  |.eptr ..=>bif (bR S [] [v]).isEmpty then(uc C S T x v).map (·.2) else none
  |_=>none
 |.mapUpdate T m k v,[]=>bif (bR S [] [k,v]).isEmpty then(sw C S T m k v).map (·.2) else none
 |.panic _,[]=>some [.chk (.nt (.con (.bool true)))]
 |_,_=>none
def uj (C:Ctx)(S:St)(ops:Array Oper)(o:Oper):Option (Sh×List PI):=
 match C.yl with
 |some _=>none
 |none=>(pK S ops o).bind fun gs=>
  match o.dst with
  |some dst=>Cm C S gs dst o.op
  |none=>(Cn C S gs o.op).map fun l=>(.none,l)
def nT (S:St)(o:Oper)(s:Sh):St:=match o.dst with|some d=>S.setR d s|none=>S
section
variable {C:Ctx} {S:St} {f:Nat→Sh} {gs:List (Nat×Bool)} {dst:Nat}
theorem aha (j:Nat):(S.withR f).fz j=(S.fz j).withR f:=by
 unfold St.fz St.withR;simp only;split<;>rfl
theorem VZ:∀(js:List Nat) {S:St},(S.withR f).fzs js=(S.fzs js).withR f
 |[],_=>rfl
 |j::js,S=>by
  show((S.withR f).fz j).fzs js=((S.fz j).fzs js).withR f;rw[aha,VZ js]
theorem afn {g:Nat}{xs:List Operand}(h:∀t,t∈xs.flatMap bC→f t=S.r t):
 (match pD C (S.withR f) gs dst g xs with|some r=>bif jF gs (some dst) r.2.2 then some (jE gs r.2.1,r.2.2) else none|none=>none)=(match pD C S gs dst g xs with|some r=>bif jF gs (some dst) r.2.2 then some (jE gs r.2.1,r.2.2) else none|none=>none):=by
 have ho:=rz (gs:=gs) h;unfold pD;generalize (C.sig g).bind (BT C.fr dst)=q;cases q with
 |none=>rfl
 |some s=>
  simp only[ko];cases s.mode<;>first|rfl|skip
  simp only[ho,VZ];rw[TC (S:=S.fzs (bR S gs xs)) (f:=f) (fun t ht=>by rw[(ox _ S).2];exact h t ht)];cases kN C (S.fzs (bR S gs xs)) gs xs with
  |none=>rfl
  |some u=>
   simp only[ko];cases Ty.subs u.1 s.args<;>rfl
theorem afe {x:Operand}{xs:List Operand}(hx:∀t,t∈bC x→f t=S.r t)(h:∀t,t∈xs.flatMap bC→f t=S.r t)(he:(bR S gs xs).isEmpty=true):
 (match oo C (S.withR f) gs dst x xs with|some r=>bif jF gs (some dst) r.2.2 then some (jE gs r.2.1,r.2.2) else none|none=>none)=(match oo C S gs dst x xs with|some r=>bif jF gs (some dst) r.2.2 then some (jE gs r.2.1,r.2.2) else none|none=>none):=by
 have ho:=rz (gs:=gs) h;have pU:=rY.1 he;unfold oo;rw[eJ hx];cases use C S gs x with
 |none=>rfl
 |some y=>
  obtain⟨ty,e⟩:=y;cases ty with
  |fn aa r=>
   simp only;cases mS aa r with
   |some _=>rfl
   |none=>
    simp only[ho,pU,St.fzs,List.foldl_nil,TC h];cases kN C S gs xs with
    |none=>rfl
    |some u=>
     simp only[ko];cases Ty.subs u.1 aa<;>rfl
  |_=>rfl
theorem agi {op:Op}(h:∀t,t∈mc op→f t=S.r t):Cm C (S.withR f) gs dst op=Cm C S gs dst op:=by
 have other:∀op,(∀t,t∈mc op→f t=S.r t)→(bif nw op&&(pre C (S.withR f) gs op).isEmpty then(match oQ C (S.withR f) gs dst op with|some r=>bif ry r.1&&jF gs (some dst) r.2 then some (jE gs r.1,r.2) else none|none=>none) else none)=
  (bif nw op&&(pre C S gs op).isEmpty then(match oQ C S gs dst op with|some r=>bif ry r.1&&jF gs (some dst) r.2 then some (jE gs r.1,r.2) else none|none=>none) else none):=by
  intro op h;cases hq:nw op with
  |false=>rfl
  |true=>rw[anC h hq,aaj hq h]
 unfold Cm;split
 ·rename_i x;simp only[mc] at h;rw[aah h,rz (xs:=[x]) fun t ht=>h t (by simpa using ht)]
 ·rename_i c;have h':=h;simp only[mc] at h';obtain⟨h1,h2⟩:=jQ h';rw[aaj (op:=.call c) rfl h,rz h2];split
  ·rfl
  ·cases he:(bR S gs c.args.toList).isEmpty||uZ C c.callee with
   |false=>rfl
   |true=>
    simp only[cond_true];split
    ·exact afn h2
    ·rename_i x hx hc;have hp:uZ C c.callee=false:=by
         rw[hc];unfold uZ;cases x<;>first|rfl|exact absurd rfl (hx _)
     exact afe (fun t ht=>h1 t (by rw[hc];exact ht)) h2 (by rw[hp,tL] at he;exact he)
    ·rfl
 ·exact other _ h
theorem agj {op:Op}(h:∀t,t∈mc op→f t=S.r t):Cn C (S.withR f) gs op=Cn C S gs op:=by
 unfold Cn;split
 ·rename_i T x v;simp only[mc] at h;obtain⟨h1,h2⟩:=jQ h;rw[tE h1,rz (xs:=[v]) fun t ht=>h2 t (by simpa using ht)];split
  ·rename_i j ver size off eL;cases(bR S [] [v]).isEmpty with
   |false=>rfl
   |true=>
    simp only[cond_true];unfold uc;rw[tE h1,eJ h2,eL];simp only;have eo:(S.withR f).o=S.o:=rfl;have ev:(S.withR f).ver=S.ver:=rfl;rw[eo,ev];cases C.P.info? T with
    |none=>rfl
    |some inf=>
     simp only;cases Nat.beq ver (S.ver j) with
     |false=>rfl
     |true=>
      simp only[cond_true];cases S.o j with
      |row T' e0=>
       cases use C S [] v with
       |none=>cases e0<;>rfl
       |some y=>
        obtain⟨t,e⟩:=y;cases e0<;>simp only<;>(generalize (_&&_:Bool)=b;cases b<;>rfl)
      |_=>rfl
  ·rfl
 ·rename_i T m k v;simp only[mc] at h;obtain⟨h1,h3⟩:=jQ h;obtain⟨h1,h2⟩:=jQ h1
  rw[rz (xs:=[k,v]) fun t ht=>by
   simp only[rV,T6,lK,cR] at ht;exact ht.elim (h2 t) (h3 t)]
  cases(bR S [] [k,v]).isEmpty with
  |false=>rfl
  |true=>
   simp only[cond_true];unfold sw;rw[tE h1,eJ h2,eJ h3];have eo:(S.withR f).o=S.o:=rfl;have ev:(S.withR f).ver=S.ver:=rfl;rw[eo,ev];cases C.P.underlying T with
   |none=>rfl
   |some desc=>
    cases desc with
    |map K E=>
     cases fp S [] m with
     |obj j ver=>
      simp only;cases Nat.beq ver (S.ver j) with
      |false=>rfl
      |true=>
       simp only[cond_true];cases S.o j with
       |mp kt et=>
        cases use C S [] k with
        |none=>rfl
        |some y=>
         cases use C S [] v with
         |none=>rfl
         |some z=>
          obtain⟨tk,ek⟩:=y;obtain⟨tv,ev⟩:=z;simp only;generalize (_&&_:Bool)=b;cases b<;>rfl
       |_=>rfl
     |_=>rfl
    |_=>rfl
 ·rfl
 ·rfl
theorem agl {ops:Array Oper}{o:Oper}(h:∀t,t∈mc o.op++Hw ops o→f t=S.r t):uj C (S.withR f) ops o=uj C S ops o:=by
 obtain⟨h1,h2⟩:=jQ h;unfold uj;rw[ahq h2];split
 ·rfl
 ·cases pK S ops o with
  |none=>rfl
  |some gs=>
   simp only[ko];split
   ·exact agi h1
   ·rw[agj h1]
theorem aov {S:St}{t:Nat}{s:Sh}(h:S.r t=s)(hs:nJ s=true):xF S t t=some (S,[]):=by
 unfold xF;rw[h];cases s<;>first|rfl|cases hs
theorem agk {ops:Array Oper}{o:Oper}{q:Sh×List PI}(h:uj C S ops o=some q):pA C S ops o=some (nT S o q.1,q.2):=by
 unfold uj at h;split at h
 case h_1=>cases h
 rename_i mP;simp only[ao] at h;obtain⟨gs,ei,h⟩:=h;have hY:zd C S ops o=none:=by
  unfold zd;rw[mP];split<;>first|rfl|(rename_i hx;cases hx;done)|(rename_i hx _;cases hx;done)
 have fin:∀{S':St},pre C S gs o.op++qq C S gs o=[]→core C S gs o=some (S',q.2)→j1 C (post C S' o) S'=some (S',[])→jF gs o.dst q.2=true→pA C S ops o=some (S',q.2):=by
  intro S' h1 h2 h3 h4;unfold pA zc BQ;rw[hY,ei];simp only[ko,h1,j1,h2,h3,h4,cond_true,sd,lK]
 cases hd:o.dst with
 |some dst=>
  simp only[hd] at h;have bZ:nT S o q.1=S.setR dst q.1:=by unfold nT;rw[hd]
  rw[bZ];unfold Cm at h;split at h
  ·rename_i x bY;split at h
   case h_2=>cases h
   cases hb:(C.fr.any (Nat.beq dst)&&(bR S [] [x]).isEmpty)<;>simp only[hb,cond_true,cond_false] at h
   ·cases h
   simp only[aj] at hb;split at h
   case h_2=>cases h
   rename_i r hr;cases WD:nJ r.1<;>simp only[WD,cond_true,cond_false] at h
   ·cases h
   cases h;have he:=rY.1 hb.2;refine fin ?_ ?_ ?_ rfl
   ·rw[bY];unfold qq;rw[bY,hd];simp only[hb.1,he,cond_true,pre,tn,yd,lK]
   ·unfold core;rw[hd];simp only[bY,oQ,hb.1,cond_true,hr]
   ·unfold post;rw[bY,hd];simp only[j1,Gh.run];rw[aov (s:=q.1) (by simp[St.setR,aK]) WD];rfl
  ·rename_i c bY;have NY:pre C S gs o.op++qq C S gs o=[]:=by
        rw[bY];unfold qq;rw[bY];simp[pre,tn]
   have kA:∀S':St,j1 C (post C S' o) S'=some (S',[]):=fun S'=>by
        unfold post;rw[bY];rfl
   split at h
   ·rename_i r hr;cases hb:(ry r.1&&jF gs (some dst) r.2)<;>simp only[hb,cond_true,cond_false] at h
    ·cases h
    cases h;simp only[aj] at hb;refine fin NY ?_ (kA _) (by rw[hd];exact hb.2);unfold core;rw[hd];simp only[bY,hr,hb.1,cond_true]
   ·rename_i hr;cases he:(bR S gs c.args.toList).isEmpty||uZ C c.callee<;>simp only[he,cond_true,cond_false] at h
    ·cases h
    have sfz:∀b:Bool,(bR S gs c.args.toList).isEmpty=true∨b=true→(bif b then S else S.fzs (bR S gs c.args.toList))=S:=fun b hb=>by
     rcases hb with hb|rfl
     ·rw[rY.1 hb];cases b<;>rfl
     ·rfl
    split at h
    ·rename_i f hc;split at h
     case h_2=>cases h
     rename_i r ej;cases hb:jF gs (some dst) r.2.2<;>simp only[hb,cond_true,cond_false] at h
     ·cases h
     cases h;refine fin NY ?_ (kA _) (by rw[hd];exact hb);have hS:r.1=S:=by
      simp only[pD,ao] at ej;obtain⟨s,⟨s0,hs,jL⟩,ej⟩:=ej;split at ej
      case h_2=>cases ej
      simp only[ao] at ej;obtain⟨u,hu,ej⟩:=ej;cases bG:Ty.subs u.1 s.args<;>simp only[bG,cond_true,cond_false] at ej
      ·cases ej
      cases ej;refine sfz _ ?_;have Dl:s.res=s0.res:=by
       unfold BT at jL;split at jL
       ·revert jL
        generalize (_&&_:Bool)=b;intro jL;cases b<;>simp only[cond_true,cond_false,aR] at jL<;>rw[←jL]
       ·simp only[aR] at jL;rw[←jL]
      rw[hc] at he;simp only[uZ,hs,gF] at he;rw[Dl];exact he
     unfold core;rw[hd];simp only[bY,hr,hc,ej,hS]
    ·rename_i x Iq hc;split at h
     case h_2=>cases h
     rename_i r ej;cases hb:jF gs (some dst) r.2.2<;>simp only[hb,cond_true,cond_false] at h
     ·cases h
     cases h;refine fin NY ?_ (kA _) (by rw[hd];exact hb);have hS:r.1=S:=by
      unfold oo at ej;split at ej
      case h_2=>cases ej
      rename_i aa r0 e wW;split at ej
      case h_1=>cases ej
      simp only[ao] at ej;obtain⟨u,hu,ej⟩:=ej;cases bG:Ty.subs u.1 aa<;>simp only[bG,cond_true,cond_false] at ej
      ·cases ej
      cases ej;refine sfz _ (.inl ?_);have hp:uZ C c.callee=false:=by
       rw[hc];unfold uZ;cases x<;>first|rfl|exact absurd rfl (Iq _)
      rw[hp,tL] at he;exact he
     unfold core;rw[hd];simp only[bY,hr,hc];cases x with
     |func f=>exact absurd rfl (Iq f)
     |_=>simp only[ej,hS]
    ·cases h
  ·rename_i Xc dp;cases hb:(nw o.op&&(pre C S gs o.op).isEmpty)<;>simp only[hb,cond_true,cond_false] at h
   ·cases h
   simp only[aj] at hb;split at h
   case h_2=>cases h
   rename_i r hr;cases bn:(ry r.1&&jF gs (some dst) r.2)<;>simp only[bn,cond_true,cond_false] at h
   ·cases h
   cases h;simp only[aj] at bn;have dm:qq C S gs o=[]:=by
        unfold qq;split
        ·rename_i x t e _;exact absurd e (Xc x)
        ·rfl
   have kA:∀S':St,j1 C (post C S' o) S'=some (S',[]):=fun S'=>by
        have:post C S' o=[]:=by
         unfold post;split
         ·rename_i x t e _;exact absurd e (Xc x)
         ·rename_i T t e _;rw[e] at hb;simp[nw] at hb
         ·rename_i T x v e;rw[e] at hb;simp[nw] at hb
         ·rfl
        rw[this];rfl
   refine fin (by rw[dm,rY.1 hb.2];rfl) ?_ (kA _) (by rw[hd];exact bn.2);unfold core;rw[hd];simp only[hr,bn.1,cond_true]
 |none=>
  simp only[hd,ax] at h;obtain⟨l,h,rfl⟩:=h;have bZ:nT S o (.none:Sh)=S:=by unfold nT;rw[hd]
  show pA C S ops o=some (nT S o .none,l);rw[bZ];have dm:qq C S gs o=[]:=by unfold qq;rw[hd];split<;>first|rfl|(rename_i hx;cases hx)
  unfold Cn at h;split at h
  ·rename_i T x v bY;split at h
   case h_2=>cases h
   rename_i j ver size off eL;cases he:(bR S [] [v]).isEmpty<;>simp only[he,cond_true,cond_false] at h
   ·cases h
   simp only[ax] at h;obtain⟨r,hr,rfl⟩:=h;have hS:r.1=S:=by
        unfold uc at hr;split at hr
        case h_2=>cases hr
        rw[eL] at hr;simp only at hr;cases hv:Nat.beq ver (S.ver j)<;>simp only[hv,cond_true,cond_false] at hr
        ·cases hr
        split at hr
        ·revert hr;generalize (_&&_:Bool)=b;intro hr;cases b<;>simp only[cond_true,cond_false] at hr<;>cases hr;rfl
        ·revert hr;generalize (_&&_:Bool)=b;intro hr;cases b<;>simp only[cond_true,cond_false] at hr<;>cases hr;rfl
        ·cases hr
   refine fin ?_ ?_ ?_ rfl
   ·rw[dm,bY];simp only[pre,tn,eL,rY.1 he,yd,lK]
   ·unfold core;rw[hd];simp only[bY,hr];rw[←hS]
   ·unfold post;rw[bY];simp only[eL];rfl
  ·rename_i T m k v bY;cases he:(bR S [] [k,v]).isEmpty<;>simp only[he,cond_true,cond_false] at h
   ·cases h
   simp only[ax] at h;obtain⟨r,hr,rfl⟩:=h;have hS:r.1=S:=by
        unfold sw at hr;split at hr
        ·rename_i K _ j ver _ _;cases hv:Nat.beq ver (S.ver j)<;>simp only[hv,cond_true,cond_false] at hr
         ·cases hr
         split at hr
         ·revert hr;generalize (_&&_:Bool)=b;intro hr;cases b<;>simp only[cond_true,cond_false] at hr<;>cases hr;rfl
         ·cases hr
        ·cases hr
   refine fin ?_ ?_ ?_ rfl
   ·rw[dm,bY];simp only[pre,tn,rY.1 he,yd,lK]
   ·unfold core;rw[hd];simp only[bY,hr];rw[←hS]
   ·unfold post;rw[bY];rfl
  ·rename_i x bY;cases h;refine fin ?_ ?_ ?_ rfl
   ·rw[dm,bY];rfl
   ·unfold core;rw[hd];simp only[bY]
   ·unfold post;rw[bY];rfl
  ·cases h
end
def fW (ops:Array Oper)(shs:List Sh)(l:List Nat)(f:Nat→Sh):Nat→Sh:=
 l.foldl (fun f i=>match(ops[i]?).bind (·.dst) with|some d=>bV f d (shs.getD i .none)|none=>f) f
def zl (C:Ctx)(S:St)(ops:Array Oper):Nat→Option (List (Sh×List PI))
 |0=>some []
 |k+1=>(zl C S ops k).bind fun q=>match ops[k]? with
  |some o=>(uj C (S.withR (fW ops (q.map (·.1)) (List.range k) S.r)) ops o).map fun r=>q++[r]
  |none=>none
def dS (ops:Array Oper):Nat→List Nat
 |0=>[]
 |k+1=>dS ops k++[match ops[k]? with
  |some o=>o.after.toList.foldr (fun e m=>bif Region.binds .any e then Nat.lor (Nat.lor (ed e.on) ((dS ops k).getD e.on 0)) m else m) 0
  |none=>0]
def abr (ops:Array Oper)(o:Oper):List Nat:=mc o.op++Hw ops o
def VS (ops:Array Oper)(nc:List (List Nat))(clo:List Nat)(i:Nat):Bool:=
 match ops[i]? with
 |some o=>(nc.getD i []).all (au (clo.getD i 0))&&(o.after.toList.all fun e=> !Region.binds .any e||Nat.blt e.on i)&&
   (abr ops o).all fun t=>(List.range ops.size).all fun j=>match(ops[j]?).bind (·.dst) with
     |some d=> !Nat.beq d t||((Nat.blt j i&&au (clo.getD i 0) j)||au (clo.getD j 0) i)
     |none=>true
 |none=>false
def Hp (ops:Array Oper)(i:Nat):Bool:=match ops[i]? with|some o=>o.after.toList.all fun e=> !Region.binds .any e||Nat.blt e.on i|none=>false
def Co (ops:Array Oper)(nc:List (List Nat))(clo:List Nat)(m:Nat):Bool:=(List.range m).all (VS ops nc clo)&&(List.range ops.size).all (Hp ops)
def pg (clo:List Nat):Nat→Nat
 |0=>0
 |k+1=>bif (List.range k).all (au (clo.getD k 0)) then pg clo k else k+1
theorem ab9 (clo:List Nat):∀k,pg clo k≤k
 |0=>aX _
 |k+1=>by
  unfold pg;cases(List.range k).all (au (clo.getD k 0)) with
  |true=>exact Nat.le_succ_of_le (ab9 clo k)
  |false=>exact aX _
theorem ab8 (clo:List Nat):∀k i,pg clo k≤i→i<k→∀j,j<i→au (clo.getD i 0) j=true
 |0,i,_,h=>by omega
 |k+1,i,h1,h2=>by
  unfold pg at h1;cases hb:(List.range k).all (au (clo.getD k 0)) with
  |true=>
   rw[hb] at h1;by_cases e:i=k
   ·subst e;exact fun j hj=>bz.1 hb j (cr.2 hj)
   ·exact ab8 clo k i h1 (by omega)
  |false=>rw[hb] at h1;simp only[cond_false] at h1;omega
def VT (C:Ctx)(ops:Array Oper)(S:St):Option (St×List PI):=
 (zl C S ops (pg (dS ops ops.size) ops.size)).bind fun q=>
    bif Co ops (qm (q.map (·.2)) (pg (dS ops ops.size) ops.size)) (dS ops ops.size) (pg (dS ops ops.size) ops.size) then
     (om C ops (List.range' (pg (dS ops ops.size) ops.size) (ops.size-pg (dS ops ops.size) ops.size)) (S.withR (fW ops (q.map (·.1)) (List.range (pg (dS ops ops.size) ops.size)) S.r))).map fun r=>(r.1,(q.map (·.2)).flatten++r.2)
    else none
theorem Ko (ops:Array Oper)(shs:List Sh)(i:Nat)(l:List Nat)(f:Nat→Sh):fW ops shs (i::l) f=fW ops shs l (match(ops[i]?).bind (·.dst) with|some d=>bV f d (shs.getD i .none)|none=>f):=rfl
theorem Fj {ops:Array Oper}{shs:List Sh}{t:Nat}:∀{l:List Nat} {f:Nat→Sh},(∀i,i∈l→(ops[i]?).bind (·.dst)≠some t)→fW ops shs l f t=f t
 |[],_,_=>rfl
 |i::l,f,h=>by
  rw[Ko,Fj fun j hj=>h j (dK _ hj)];have:=h i (dR ..);cases hd:(ops[i]?).bind (·.dst) with
  |none=>rfl
  |some d=>exact bk _ _ (fun e=>this (by rw[hd,e]))
def K9 (ops:Array Oper):Prop:=∀(i j t:Nat),(ops[i]?).bind (·.dst)=some t→(ops[j]?).bind (·.dst)=some t→i=j
theorem Km {ops:Array Oper}(ho:K9 ops){shs:List Sh}{t i:Nat}(ht:(ops[i]?).bind (·.dst)=some t):∀{l:List Nat} {f:Nat→Sh},i∈l→fW ops shs l f t=shs.getD i .none
 |[],_,h=>nomatch h
 |j::l,f,h=>by
  rw[Ko];by_cases hl:i∈l
  ·exact Km ho ht hl
  ·have e:i=j:=(cW.1 h).resolve_right hl;subst e;rw[Fj fun k hk e=>hl (by rw[ho i k t ht e];exact hk),ht];exact aK _ _ _
theorem ab0 {ops:Array Oper}(ho:K9 ops){shs Rq:List Sh}{l m:List Nat}{f:Nat→Sh}{t:Nat}(h1:∀i,(ops[i]?).bind (·.dst)=some t→(i∈l↔i∈m))(h2:∀i,i∈l→(ops[i]?).bind (·.dst)=some t→shs.getD i .none=Rq.getD i .none):fW ops shs l f t=fW ops Rq m f t:=by
 by_cases hh:∃i,i∈l∧(ops[i]?).bind (·.dst)=some t
 ·obtain⟨i,hi,ht⟩:=hh;rw[Km ho ht hi,Km ho ht ((h1 i ht).1 hi),h2 i hi ht]
 ·rw[Fj fun i hi e=>hh ⟨i,hi,e⟩,Fj fun i hi e=>hh ⟨i,(h1 i e).2 hi,e⟩]
theorem amB {ops:Array Oper}(h:(ops.toList.filterMap (·.dst)).Nodup):K9 ops:=by
 intro i j t hi hj;rw[ao] at hi hj;obtain⟨oi,h1,h2⟩:=hi;obtain⟨oj,h3,h4⟩:=hj;by_cases e:i=j
 ·exact e
 ·exact(wc.dst_once h h1 h3 h2 h4 e).elim
theorem MH {C:Ctx}{S:St}{ops:Array Oper}:∀{k:Nat} {q:List (Sh×List PI)},zl C S ops k=some q→q.length=k∧∀i,i<k→∃o,ops[i]?=some o∧
 uj C (S.withR (fW ops (q.map (·.1)) (List.range i) S.r)) ops o=some ((q.map (·.1)).getD i .none,(q.map (·.2)).getD i [])
 |0,q,h=>by simp only[zl,aR] at h;subst h;exact⟨rfl,fun i hi=>by omega⟩
 |k+1,q,h=>by
  simp only[zl,ao] at h;obtain⟨p,hp,h⟩:=h;split at h
  case h_2=>cases h
  rename_i o ho;simp only[ax] at h;obtain⟨r,hr,rfl⟩:=h;obtain⟨l1,aF⟩:=MH hp;have same:∀i,i≤k→fW ops ((p++[r]).map (·.1)) (List.range i) S.r=fW ops (p.map (·.1)) (List.range i) S.r:=by
   intro i hi;have key:∀(l:List Nat) (f:Nat→Sh),(∀j,j∈l→j<p.length)→fW ops ((p++[r]).map (·.1)) l f=fW ops (p.map (·.1)) l f:=by
    intro l
    induction l with
    |nil=>intro f _;rfl
    |cons j l ih=>
     intro f hl;have hj:=hl j (dR ..);have e:((p++[r]).map (·.1)).getD j .none=(p.map (·.1)).getD j .none:=by
       rw[oa,aH,kT (by simpa using hj),←aH]
     rw[Ko,Ko,e,ih _ fun m hm=>hl m (dK _ hm)]
   exact key _ _ fun j hj=>by have:=cr.1 hj;omega
  refine⟨by simp[l1],fun i hi=>?_⟩;by_cases e:i=k
  ·subst e;refine⟨o,ho,?_⟩;rw[same i (aX _),hr];have e1:((p++[r]).map (·.1)).getD i .none=r.1:=by
    rw[oa,aH,jx (by simp[l1])];simp[l1]
   have e2:((p++[r]).map (·.2)).getD i []=r.2:=by
    rw[oa,aH,jx (by simp[l1])];simp[l1]
   rw[e1,e2]
  ·obtain⟨o',h1,h2⟩:=aF i (by omega);refine⟨o',h1,?_⟩;rw[same i (by omega),h2];have:i<p.length:=by omega
   simp only[oa,aH];rw[kT (by simpa using this),kT (by simpa using this)]
theorem Hb (ops:Array Oper):∀k,(dS ops k).length=k
 |0=>rfl
 |k+1=>by simp[dS,Hb ops k]
theorem Va (ops:Array Oper){k m i:Nat}(h:i<k)(hm:k≤m):(dS ops m).getD i 0=(dS ops k).getD i 0:=by
 induction m with
 |zero=>omega
 |succ m ih=>
  by_cases e:k=m+1
  ·rw[e]
  ·rw[←ih (by omega)];simp only[dS,aH];rw[kT (by rw[Hb];omega)]
theorem Hc {ops:Array Oper}{N i m:Nat}{o:Oper}(hi:i<N)(ho:ops[i]?=some o)(ae:(o.after.toList.all fun e=> !Region.binds .any e||Nat.blt e.on i)=true)(h:au ((dS ops N).getD i 0) m=true):
 ∃e,e∈o.after.toList∧Region.binds .any e=true∧(m=e.on∨au ((dS ops N).getD e.on 0) m=true):=by
 rw[Va ops (k:=i+1) (by omega) (by omega)] at h
 have e1:(dS ops (i+1)).getD i 0=o.after.toList.foldr (fun e m=>bif Region.binds .any e then Nat.lor (Nat.lor (ed e.on) ((dS ops i).getD e.on 0)) m else m) 0:=by
  simp only[dS,aH];rw[jx (by rw[Hb];exact aX _),Hb];simp[ho]
 rw[e1] at h;have aF:=bz.1 ae;generalize o.after.toList=l at h aF
 induction l with
 |nil=>rw[su] at h;simp at h
 |cons e l ih=>
  simp only[List.foldr_cons] at h;cases hb:Region.binds .any e<;>rw[hb] at h<;>simp only[cond_true,cond_false] at h
  ·obtain⟨e',h1,h2⟩:=ih h (fun x hx=>aF x (dK _ hx));exact⟨e',dK _ h1,h2⟩
  ·rw[fN,fN,gF,gF] at h;have p9:e.on<i:=by
        have:=aF e (dR ..);rw[hb] at this;simpa [jc] using this
   rcases h with(h|h)|h
   ·refine⟨e,dR ..,hb,.inl ?_⟩;have:=jC 0 e.on m;have z:au 0 m=false:=by rw[su];simp
    rw[fN,z,qG,qG,h] at this;exact(cX this.symm).symm
   ·refine⟨e,dR ..,hb,.inr ?_⟩;rw[Va ops p9 (by omega)];exact h
   ·obtain⟨e',h1,h2⟩:=ih h (fun x hx=>aF x (dK _ hx));exact⟨e',dK _ h1,h2⟩
section
variable {C:Ctx} {S:St} {ρ:Env} {σ:Im} {own:Nat→Option Nat} {hv:Nat→Value} {w0:World} {σ0:Base} {A:Nat→Prop} {a:Act} {w:World} {n:Nat} {ids:List Nat} {Φ:aV}
theorem abt {ops:Array Oper}{listed:Array Bool}{E:Nat}(aC:listed.size=ops.size)(hl:∀i,listed.getD i false=au E i)(i:Nat):i∈Region.ready .any ops listed↔i∈ml ops E:=by
 unfold Region.ready ml;simp only[cS,cr];refine and_congr_right fun hi=>?_;have h1:listed.getD i true=au E i:=by
  rw[←hl i];simp only[eK];rw[eC (by omega)];rfl
 have h2:ops[i]?=some ops[i]:=eC hi;rw[h1,h2];simp only[kU,nr,←TL,hl]
def vp (ops:Array Oper)(E:Nat):Nat→Prop:=fun t=>∃i o,au E i=true∧ops[i]?=some o∧o.dst=some t
def rP (ops:Array Oper)(E:Nat):Nat:=((List.range ops.size).filter fun i=> !au E i).length
theorem ara {ops:Array Oper}{E i:Nat}(hi:i<ops.size)(hb:au E i=false):rP ops E=rP ops (Nat.lor E (ed i))+1:=by
 unfold rP;obtain⟨l1,l2,hl⟩:=TY (cr.2 hi);have bj:=K4 (n:=ops.size);rw[hl,Bh] at bj;obtain⟨_,h2,h3⟩:=bj;rw[np] at h2;have g1:∀j,j∈l1→j≠i:=fun j hj=>h3 j hj i (dR ..);have g2:∀j,j∈l2→j≠i:=fun j hj e=>h2.1 (e▸hj)
 have c:∀l:List Nat,(∀j,j∈l→j≠i)→(l.filter fun j=> !au (Nat.lor E (ed i)) j)=l.filter fun j=> !au E j:=by
  intro l hl;apply List.filter_congr;intro j hj;rw[jC,fu (fun e=>hl j hj e.symm),tL]
 have cw:au (Nat.lor E (ed i)) i=true:=by rw[jC,iI,nY]
 rw[hl];simp only[FH,xZ,c l1 g1,c l2 g2,hb,cw,rU,Bool.not_false,if_true,tK,if_false,jy,pv];omega
theorem agn {rd:Option Nat}(hC:CtxOK C σ0)(aS:eD C)(hΦ:dQ C Φ)(hY:qN C Φ w0 σ0){a0:Act}(NG:a0.tmps.size=n){ops:Array Oper}(az:rH n ops=true)(fP:zo ops=true){m:Nat}(hm:m≤ops.size){q:List (Sh×List PI)}(hq:zl C S ops m=some q)
 (uC:Co ops (qm (q.map (·.2)) m) (dS ops ops.size) m=true) (zR:∀i,m≤i→i<ops.size→∀j,j<i→au ((dS ops ops.size).getD i 0) j=true) {Q:Exit→Act→World→Prop} {ρ':Env}
 (hK:∀listed a' w',listed.size=ops.size→(∀i,listed.getD i false=decide (i<m))→SameBut (qV ops) a0 a'→Good C w0 σ0 (S.withR (fW ops (q.map (·.1)) (List.range m) S.r)) ρ' (mq ops (List.range m)) a' w'→wpAnyIn (FR rd) 0 C.P .any ops Q (ops.size-m) listed a' w'):
 ∀(k E:Nat) (listed:Array Bool) (ρ:Env) (a:Act) (w:World),rP ops E=k→(∀j,au E j=true→j<m)→(∀j,j<ops.size→au E j=true→∀m,au ((dS ops ops.size).getD j 0) m=true→au E m=true)→listed.size=ops.size→(∀i,listed.getD i false=au E i)→SameBut (qV ops) a0 a→
  Good C w0 σ0 (S.withR (fW ops (q.map (·.1)) ((List.range m).filter (au E)) S.r)) ρ (vp ops E) a w→PI.runs Φ (fc (q.map (·.2)) (List.range m) E) ρ=some ρ'→wpAnyIn (FR rd) 0 C.P .any ops Q k listed a w:=by
 have It:=az;simp only[rH,aj] at az;have bj:=mW az.1;have NS:=amB bj;obtain⟨hlen,aF⟩:=MH hq;unfold Co at uC;rw[aj] at uC
 have CB:∀i,i<ops.size→∀o,ops[i]?=some o→(o.after.toList.all fun e=> !Region.binds .any e||Nat.blt e.on i)=true:=by
  intro i hi o ho;have:=bz.1 uC.2 i (cr.2 hi);unfold Hp at this;rw[ho] at this;exact this
 have ajC:∀i,i<m→∀o,ops[i]?=some o→((qm (q.map (·.2)) m).getD i []).all (au ((dS ops ops.size).getD i 0))=true∧
  ∀t,t∈abr ops o→∀j,j<ops.size→(ops[j]?).bind (·.dst)=some t→(j<i∧au ((dS ops ops.size).getD i 0) j=true)∨au ((dS ops ops.size).getD j 0) i=true:=by
  intro i hi o ho;have:=bz.1 uC.1 i (cr.2 hi);unfold VS at this;rw[ho] at this;simp only[aj] at this;refine⟨this.1.1,fun t ht j hj hd=>?_⟩;have:=bz.1 (bz.1 this.2 t ht) j (cr.2 hj);rw[hd] at this;simp only[iI,rU,qG,gF,aj,jc] at this;exact this
 have Uz:∀(k E:Nat) (listed:Array Bool) (ρ:Env) (a:Act) (w:World),(∀i,i<m→au E i=true)→rP ops E=k→(∀j,au E j=true→j<m)→listed.size=ops.size→(∀i,listed.getD i false=au E i)→SameBut (qV ops) a0 a→
  Good C w0 σ0 (S.withR (fW ops (q.map (·.1)) ((List.range m).filter (au E)) S.r)) ρ (vp ops E) a w→PI.runs Φ (fc (q.map (·.2)) (List.range m) E) ρ=some ρ'→wpAnyIn (FR rd) 0 C.P .any ops Q k listed a w:=by
  intro k E listed ρ a w jf hk wN aC hl hn hg af;have hb:∀i,au E i=decide (i<m):=by
   intro i;by_cases h:i<m
   ·rw[jf i h,decide_eq_true h]
   ·rw[decide_eq_false h];cases hb:au E i with
    |false=>rfl
    |true=>exact absurd (wN i hb) h
  have Ni:fc (q.map (·.2)) (List.range m) E=[]:=by
   unfold fc;rw[acU];intro i hi;rw[jf i (cr.1 hi)];rfl
  rw[Ni] at af;simp only[PI.runs,aR] at af;subst af;have aik:rP ops E=ops.size-m:=by
   unfold rP
   have key:∀N,m≤N→((List.range N).filter fun i=> !au E i).length=N-m:=by
        intro N
        induction N with
        |zero=>intro _;simp
        |succ N ih=>
         intro hN;rw[Ud,FH,jy];by_cases h:m≤N
         ·rw[ih h];simp[hb N,Nat.not_lt.2 h];omega
         ·have:m=N+1:=by omega
          have e:(List.range N).filter (fun i=> !au E i)=[]:=by
           rw[KT];intro i hi;rw[jf i (by have:=cr.1 hi;omega)];simp
          have hN':au E N=true:=jf N (by omega);rw[e];simp[hN'];omega
   exact key _ hm
  have ef:(List.range m).filter (au E)=List.range m:=KU.2 fun i hi=>jf i (cr.1 hi);rw[ef] at hg;have kB:vp ops E=mq ops (List.range m):=by
   funext t;apply propext;constructor
   ·rintro⟨i,o,h1,h2,h3⟩;exact⟨i,o,cr.2 (wN i h1),h2,h3⟩
   ·rintro⟨i,o,h1,h2,h3⟩;exact⟨i,o,jf i (cr.1 h1),h2,h3⟩
  rw[kB] at hg;rw[←hk,aik];exact hK listed a w aC (fun i=>by rw[hl i,hb i]) hn hg
 intro k
 induction k with
 |zero=>
  intro E listed ρ a w hk wN HS aC hl hn hg af;refine Uz 0 E listed ρ a w (fun i hi=>?_) hk wN aC hl hn hg af;cases hb:au E i with
  |true=>rfl
  |false=>
   have:i∈(List.range ops.size).filter fun i=> !au E i:=cS.2 ⟨cr.2 (by omega),by rw[hb];rfl⟩;unfold rP at hk;rw[Ua.1 hk] at this;cases this
 |succ k ih=>
  intro E listed ρ a w hk wN HS aC hl hn hg af;by_cases jf:∀i,i<m→au E i=true
  ·exact Uz (k+1) E listed ρ a w jf hk wN aC hl hn hg af
  refine⟨fun he=>?_,fun i hi=>?_⟩
  ·
   obtain⟨i,hi,Ij⟩:∃i,(i<m∧au E i=false)∧∀j,j<i→au E j=true:=by
        have hex:∃i,i<m∧au E i=false:=by
         refine vK fun eY=>jf fun i hi=>?_;cases hb:au E i with
         |true=>rfl
         |false=>exact absurd ⟨i,hi,hb⟩ eY
        obtain⟨i,hi⟩:=hex
        induction i using Nat.strongRecOn with
        |ind i mR=>
         by_cases hh:∃j,j<i∧au E j=false
         ·obtain⟨j,hj,hb⟩:=hh;exact mR j hj ⟨by omega,hb⟩
         ·refine⟨i,hi,fun j hj=>?_⟩;cases hb:au E j with
          |true=>rfl
          |false=>exact absurd ⟨j,hj,hb⟩ hh
   have nB:i<ops.size:=by omega
   have ho:ops[i]?=some ops[i]:=eC nB;have cA:i∈ml ops E:=by
        unfold ml;simp only[cS,cr,aj,iy,ho];refine⟨nB,hi.2,?_⟩;rw[bz];intro e ib;have:=bz.1 (CB i nB _ ho) e ib;cases hb:Region.binds .any e with
        |false=>rfl
        |true=>
         rw[hb] at this;simp only[rU,qG,jc] at this;rw[Ij _ this];rfl
   rw[←abt aC hl,he] at cA;cases cA
  ·rw[abt aC hl] at hi;unfold ml at hi;simp only[cS,cr,aj,iy] at hi;obtain⟨bo,dN,uu⟩:=hi;have Xh:ops[i]?=some ops[i]:=eC bo;generalize ops[i]=o at Xh;have ho:=Xh;rw[ho] at uu;simp only at uu;have o2:=CB i bo o ho;have zz:∀m,au ((dS ops ops.size).getD i 0) m=true→au E m=true:=by
        intro m hm;obtain⟨e,j4,j5,Nh⟩:=Hc bo ho o2 hm;have hE:au E e.on=true:=by
         have:=bz.1 uu e j4
         rwa [j5,rU,qG] at this
        rcases Nh with rfl|Nh
        ·exact hE
        ·have p9:e.on<i:=by
          have:=bz.1 o2 e j4;rw[j5] at this;simpa [jc] using this
         exact HS e.on (by omega) hE m Nh
   have lq:i<m:=by
        refine vK fun eY=>jf fun j hj=>?_;exact zz j (zR i (by omega) bo j (by omega))
   obtain⟨o',dV,j6⟩:=aF i lq;rw[ho] at dV;cases dV;obtain⟨o1,o3⟩:=ajC i lq o ho;have dp:((qm (q.map (·.2)) m).getD i []).all (au E)=true:=by
        rw[bz] at o1 ⊢;exact fun m hm=>zz m (o1 m hm)
   have ain:uj C (S.withR (fW ops (q.map (·.1)) ((List.range m).filter (au E)) S.r)) ops o=some ((q.map (·.1)).getD i .none,(q.map (·.2)).getD i []):=by
        rw[←j6];refine agl (S:=S.withR (fW ops (q.map (·.1)) (List.range i) S.r)) fun t ht=>?_;refine ab0 NS (fun j hj=>?_) (fun _ _ _=>rfl);have fD:j<ops.size:=by
         rw[ao] at hj;obtain⟨oj,h1,_⟩:=hj;exact(dI.1 h1).1
        rw[cS,cr,cr];rcases o3 t ht j fD hj with⟨h1,h2⟩|h1
        ·exact⟨fun _=>h1,fun _=>⟨by omega,zz j h2⟩⟩
        ·constructor
         ·rintro⟨_,pP⟩;have:=HS j fD pP i h1;rw[dN] at this;cases this
         ·intro eX;exfalso;have key:∀m j,j<ops.size→au ((dS ops ops.size).getD j 0) m=true→m<j:=by
           intro m j
           induction j using Nat.strongRecOn with
           |ind j mR=>
            intro hj hm;have rk:ops[j]?=some ops[j]:=eC hj;have p2:=CB j hj _ rk;obtain⟨e,e1,e2,e3⟩:=Hc hj rk p2 hm;have p9:e.on<j:=by
                have:=bz.1 p2 e e1;rw[e2] at this;simpa [jc] using this
            rcases e3 with rfl|e3
            ·exact p9
            ·have:=mR e.on p9 (by omega) e3;omega
          have:=key i j fD h1;omega
   have hcp:=agk ain;rw[abA lq dN dp,ao] at af;obtain⟨ρ1,hρ1,hρ2⟩:=af;have rf:∀d,o.dst=some d→¬vp ops E d∧d<a.tmps.size:=by
        intro d hd;refine⟨fun⟨i',o',cw,dV,ia⟩=>?_,?_⟩
        ·have ay:i'≠i:=fun e=>by subst e;rw[dN] at cw;cases cw
         exact wc.dst_once bj dV ho ia hd ay
        ·have:=bz.1 az.2 o (by simpa using gE ho);simp only[hd,aj] at this;rw[hn.size,NG];simpa [jc] using this.2
   have j9:oO o.op=true:=by
        have:=bz.1 az.2 o (by simpa using gE ho);simp only[aj] at this;exact this.1
   have hj:∀j want t,o.guard=some (j,want)→(ops[j]?).bind (·.dst)=some t→vp ops E t:=by
        intro j want t gN ht;rw[ao] at ht;obtain⟨oj,h1,h2⟩:=ht;have uz:=bz.1 fP o (by simpa using gE ho);simp only[gN] at uz;obtain⟨e,j4,j5⟩:=vM.1 uz;simp only[aj] at j5;have h3:=bz.1 uu e j4;rw[j5.1] at h3;simp only[rU,qG] at h3;exact⟨j,oj,by rw[←cX j5.2];exact h3,h1,h2⟩
   have aij:∀j,j<ops.size→au (Nat.lor E (ed i)) j=true→∀m,au ((dS ops ops.size).getD j 0) m=true→au (Nat.lor E (ed i)) m=true:=by
        intro j hj pP m hm;rw[jC,gF] at pP;rw[jC,gF];rcases pP with pP|pP
        ·exact .inl (HS j hj pP m hm)
        ·rw[←cX pP] at hm;exact .inl (zz m hm)
   have main:=Hd (rd:=rd) (K:=wpAnyIn (FR rd) 0 C.P .any ops Q k (listed.setIfInBounds i true)) (Q:=Q) hg hC aS hΦ hY j9 rf hj hcp hρ1 (fun a' w' fC rn=>by
        have hA:(fun u=>vp ops E u∨o.dst=some u)=vp ops (Nat.lor E (ed i)):=by
         funext u;apply propext;constructor
         ·rintro(⟨i',o',h1,h2,h3⟩|h1)
          ·exact⟨i',o',by rw[jC,h1,xV],h2,h3⟩
          ·exact⟨i,o,by rw[jC,iI,nY],ho,h1⟩
         ·rintro⟨i',o',h1,h2,h3⟩;rw[jC,gF] at h1;rcases h1 with h1|h1
          ·exact .inl ⟨i',o',h1,h2,h3⟩
          ·rw[←cX h1,ho] at h2;cases h2;exact .inr h3
        rw[hA] at fC;have hSt:nT (S.withR (fW ops (q.map (·.1)) ((List.range m).filter (au E)) S.r)) o ((q.map (·.1)).getD i .none)=S.withR (fW ops (q.map (·.1)) ((List.range m).filter (au (Nat.lor E (ed i)))) S.r):=by
         have aiJ:∀t,(nT (S.withR (fW ops (q.map (·.1)) ((List.range m).filter (au E)) S.r)) o ((q.map (·.1)).getD i .none)).r t=fW ops (q.map (·.1)) ((List.range m).filter (au (Nat.lor E (ed i)))) S.r t:=by
          intro t;by_cases HY:o.dst=some t
          ·have hb:(ops[i]?).bind (·.dst)=some t:=by rw[ho];exact HY
           rw[Km NS hb (cS.2 ⟨cr.2 lq,by rw[jC,iI,nY]⟩)];unfold nT;rw[HY];simp[St.setR,aK]
          ·have e1:(nT (S.withR (fW ops (q.map (·.1)) ((List.range m).filter (au E)) S.r)) o ((q.map (·.1)).getD i .none)).r t=fW ops (q.map (·.1)) ((List.range m).filter (au E)) S.r t:=by
            unfold nT;split
            ·rename_i d hd;exact bk _ _ (fun e=>HY (by rw[hd,e]))
            ·rfl
           rw[e1];refine ab0 NS (fun j hj=>?_) (fun _ _ _=>rfl);have eX:¬i=j:=fun e=>by subst e;rw[ho] at hj;exact HY hj
           rw[cS,cS,jC,fu eX,tL]
         have:∀(X Y:St),X.o=Y.o→X.ver=Y.ver→(∀t,X.r t=Y.r t)→X=Y:=by
          intro X Y h1 h2 h3;cases X;cases Y;simp only at h1 h2 h3;subst h1 h2
          congr 1
          exact funext h3
         refine this _ _ ?_ ?_ aiJ
         ·unfold nT;split<;>rfl
         ·unfold nT;split<;>rfl
        rw[hSt] at fC;refine ih _ _ ρ1 a' w' (by have:=ara bo dN;omega) (fun j hj=>by rw[jC,gF] at hj;rcases hj with hj|hj;exact wN j hj;rw[←cX hj];exact lq) aij (by simpa using aC) (fun j=>?_) (hn.trans (rn.mono fun t e=>⟨o,by simpa using gE ho,e⟩)) fC hρ2;rw[jC];simp only[eK,vG];by_cases cD:i=j
        ·subst cD;simp[aC,bo]
        ·rw[if_neg cD,fu cD,tL,←hl j];simp only[eK])
   simp only[wpOpIn,ho];split
   ·rename_i hw;rw[if_pos hw] at main;exact main
   ·rename_i hw;rw[if_neg hw] at main;exact⟨fun _ _=>trivial,main⟩
theorem apd {rd:Option Nat}(hC:CtxOK C σ0)(aS:eD C)(hΦ:dQ C Φ)(hY:qN C Φ w0 σ0){ops:Array Oper}(az:rH n ops=true)(fP:zo ops=true)(CB:(List.range ops.size).all (Hp ops)=true){m:Nat}
 (zR:∀i,m≤i→i<ops.size→∀j,j<i→au ((dS ops ops.size).getD i 0) j=true) {Q:Exit→Act→World→Prop} {ρ':Env}:
 ∀(k i:Nat) {S:St} {ρ:Env} {a:Act} {w:World} {r:St×List PI} (listed:Array Bool),i+k=ops.size→m≤i→listed.size=ops.size→(∀j,listed.getD j false=decide (j<i))→a.tmps.size=n→
  Good C w0 σ0 S ρ (mq ops (List.range i)) a w→om C ops (List.range' i k) S=some r→PI.runs Φ r.2 ρ=some ρ'→
  (∀a' w',SameBut (qV ops) a a'→Good C w0 σ0 r.1 ρ' (mq ops (List.range ops.size)) a' w'→Q .normal a' w')→wpAnyIn (FR rd) 0 C.P .any ops Q k listed a w:=by
 have It:=az;simp only[rH,aj] at az;have bj:=mW az.1
 have Lf:∀i,i<ops.size→∀o,ops[i]?=some o→(o.after.toList.all fun e=> !Region.binds .any e||Nat.blt e.on i)=true:=by
  intro i hi o ho;have:=bz.1 CB i (cr.2 hi);unfold Hp at this;rw[ho] at this;exact this
 have mem:∀(listed:Array Bool) (i j:Nat),listed.size=ops.size→(∀j,listed.getD j false=decide (j<i))→(j∈Region.ready .any ops listed↔(j<ops.size∧¬j<i∧∀o,ops[j]?=some o→(o.after.toList.all fun e=> !Region.binds .any e||decide (e.on<i))=true)):=by
  intro listed i j aC hl;unfold Region.ready;simp only[cS,cr];refine and_congr_right fun hj=>?_;have h1:listed.getD j true=decide (j<i):=by
   rw[←hl j];simp only[eK];rw[eC (by omega)];rfl
  have h2:ops[j]?=some ops[j]:=eC hj;rw[h1,h2];simp only[kU,nr,←TL,hl,aj,iy,decide_eq_false_iff_not,aR,forall_eq']
 intro k
 induction k with
 |zero=>
  intro i S ρ a w r listed CU hmi aC hl hn hg hr af hQ;simp only[List.range'_zero,om,aR] at hr;subst hr;rw[nR af] at hQ;refine⟨?_,hQ a w (.refl _ _) ?_⟩
  ·rw[T3];intro j hj;rw[mem listed i j aC hl] at hj;exact hj.2.1 (by omega)
  ·have:i=ops.size:=by omega
   rw[←this];exact hg
 |succ k ih=>
  intro i S ρ a w r listed CU hmi aC hl hn hg hr af hQ;have bo:i<ops.size:=by omega
  have ho:ops[i]?=some ops[i]:=eC bo;generalize ops[i]=o at ho;refine⟨fun he=>?_,fun i' cw=>?_⟩
  ·have:i∈Region.ready .any ops listed:=by
        rw[mem listed i i aC hl];refine⟨bo,by omega,fun o' dV=>?_⟩;rw[bz];intro e ib;have:=bz.1 (Lf i bo o' dV) e ib;cases hb:Region.binds .any e with
        |false=>rfl
        |true=>
         rw[hb] at this;simp only[rU,qG,jc] at this;simpa using this
   rw[he] at this;cases this
  ·rw[mem listed i i' aC hl] at cw;obtain⟨h1,h2,h3⟩:=cw;obtain rfl:i'=i:=by
        refine vK fun ay=>?_;have dV:ops[i']?=some ops[i']:=eC h1;have zz:=zR i' (by omega) h1 i (by omega);have ae:∀m j,j<ops.size→au ((dS ops ops.size).getD j 0) m=true→m<j:=by
         intro m j
         induction j using Nat.strongRecOn with
         |ind j mR=>
          intro hj hm;have rk:ops[j]?=some ops[j]:=eC hj;have p2:=Lf j hj _ rk;obtain⟨e,e1,e2,e3⟩:=Hc hj rk p2 hm;have p9:e.on<j:=by
           have:=bz.1 p2 e e1;rw[e2] at this;simpa [jc] using this
          rcases e3 with rfl|e3
          ·exact p9
          ·have:=mR e.on p9 (by omega) e3;omega
        obtain⟨e,e1,e2,e3⟩:=Hc h1 dV (Lf i' h1 _ dV) zz;have h4:=bz.1 (h3 _ dV) e e1;rw[e2] at h4;simp only[rU,qG,decide_eq_true_eq] at h4;rcases e3 with e3|e3
        ·omega
        ·have:=ae i e.on (by omega) e3;omega
   rw[FO] at hr;simp only[om,ho] at hr;simp only[ao,ax] at hr;obtain⟨r1,jm,q,hq,rfl⟩:=hr;simp only[pf,ao] at af;obtain⟨ρ1,hρ1,hρ2⟩:=af;have rf:∀d,o.dst=some d→¬mq ops (List.range i') d∧d<a.tmps.size:=by
        intro d hd;refine⟨fun⟨i2,o2,wF,iO,dM⟩=>?_,?_⟩
        ·have ay:i2≠i':=by have:=cr.1 wF;omega
         exact wc.dst_once bj iO ho dM hd ay
        ·have:=bz.1 az.2 o (by simpa using gE ho);simp only[hd,aj] at this;rw[hn];simpa [jc] using this.2
   have j9:oO o.op=true:=by
        have:=bz.1 az.2 o (by simpa using gE ho);simp only[aj] at this;exact this.1
   have hj:∀j want t,o.guard=some (j,want)→(ops[j]?).bind (·.dst)=some t→mq ops (List.range i') t:=by
        intro j want t gN ht;rw[ao] at ht;obtain⟨oj,h1,h2⟩:=ht;have uz:=bz.1 fP o (by simpa using gE ho);simp only[gN] at uz;obtain⟨e,j4,j5⟩:=vM.1 uz;simp only[aj] at j5;have h4:=bz.1 (h3 o ho) e j4;rw[j5.1] at h4;simp only[rU,qG,decide_eq_true_eq] at h4;exact⟨j,oj,cr.2 (by rw[←cX j5.2];exact h4),h1,h2⟩
   have main:=Hd (rd:=rd) (K:=wpAnyIn (FR rd) 0 C.P .any ops Q k (listed.setIfInBounds i' true)) (Q:=Q) hg hC aS hΦ hY j9 rf hj jm hρ1 (fun a' w' fC fh=>by
        have:(fun u=>mq ops (List.range i') u∨o.dst=some u)=mq ops (List.range (i'+1)):=by
         funext u;apply propext;constructor
         ·rintro(⟨i2,o2,h1,h2,h3⟩|h1)
          ·exact⟨i2,o2,cr.2 (by have:=cr.1 h1;omega),h2,h3⟩
          ·exact⟨i',o,cr.2 (by omega),ho,h1⟩
         ·rintro⟨i2,o2,g1,g2,g3⟩;by_cases e:i2=i'
          ·rw[e,ho] at g2;cases g2;exact .inr g3
          ·exact .inl ⟨i2,o2,cr.2 (by have:=cr.1 g1;omega),g2,g3⟩
        rw[this] at fC;refine ih (i'+1) _ (by omega) (by omega) (by simpa using aC) (fun j=>?_) (fh.size.trans hn) fC hq hρ2 (fun a2 w2 s2 g2=>hQ a2 w2 ((fh.mono fun t e=>⟨o,by simpa using gE ho,e⟩).trans s2) g2);simp only[eK,vG];by_cases cD:i'=j
        ·subst cD;simp[aC,bo]
        ·rw[if_neg cD];have:=hl j;simp only[eK] at this;rw[this];by_cases ae:j<i'
         ·rw[decide_eq_true ae,decide_eq_true (by omega:j<i'+1)]
         ·rw[decide_eq_false ae,decide_eq_false (by omega:¬j<i'+1)])
   simp only[wpOpIn,ho];split
   ·rename_i hw;rw[if_pos hw] at main;exact main
   ·rename_i hw;rw[if_neg hw] at main;exact⟨fun _ _=>trivial,main⟩
end
def Ka (C:Ctx)(n:Nat)(ids:List Nat)(ops:Array Oper)(draw:Bool)(S:Snap):Option (Snap×List PI):=
 bif rH n ops then
    bif draw then
     bif zo ops&&O7 ops&&C.P.follows .mixedOrders then
        match VT C ops (S.st ids) with
        |some r=>some (⟨vt (fH r.1) r.1 S.rs (ops.toList.filterMap (·.dst)),ids.map fun j=>iV r.1 (r.1.o j)⟩,r.2)
        |none=>
        (nS C ops (List.range ops.size) (S.st ids)).bind fun X=>CE X fun X=>CE (qm X ops.size) fun nc=>
         (Snap.hard ⟨S.rs.map fun s=>lE (S.st ids) (cQ s),ids.map fun j=>iV (S.st ids) ((S.st ids).o j)⟩ fun T0=>Fb ops (sq C.P ops) (PJ C ops n ids X nc) ops.size [(0,T0)]).map fun T=>(⟨T.rs.map (fH (T.stO ids)),ids.map fun j=>iV (T.stO ids) ((T.stO ids).o j)⟩,X.flatten)
     else none
    else bif V5 ops then(om C ops (List.range ops.size) (S.st ids)).map fun r=>(⟨vt (fH r.1) r.1 S.rs (ops.toList.filterMap (·.dst)),ids.map fun j=>iV r.1 (r.1.o j)⟩,r.2) else none
 else none
def J9 (C:Ctx)(n:Nat)(ids:List Nat)(ops:Array Oper)(draw:Bool)(S:Snap):Option (Snap×List PI):=
 (Ka C n ids ops draw S).bind fun r=>r.1.hard fun T=>some (T,r.2)
theorem aoo (C:Ctx)(n:Nat)(ids:List Nat)(ops:Array Oper)(draw:Bool)(S:Snap):J9 C n ids ops draw S=Ka C n ids ops draw S:=by
 unfold J9;cases Ka C n ids ops draw S with
 |none=>rfl
 |some r=>rw[ko,Snap.hard_eq]
def xK (ops:Array Oper)(E:Nat):Nat→Prop:=fun t=>∃i o,au E i=true∧ops[i]?=some o∧o.dst=some t
section
variable {C:Ctx} {S:St} {ρ:Env} {σ:Im} {own:Nat→Option Nat} {hv:Nat→Value} {w0:World} {σ0:Base} {A:Nat→Prop} {a:Act} {w:World} {n:Nat} {ids:List Nat} {Φ:aV}
theorem J7 {ops:Array Oper}{listed:Array Bool}{E:Nat}(aC:listed.size=ops.size)(hl:∀i,listed.getD i false=au E i)(i:Nat):i∈Region.ready .any ops listed↔i∈ml ops E:=by
 unfold Region.ready ml;simp only[cS,cr];refine and_congr_right fun hi=>?_;have h1:listed.getD i true=au E i:=by
  rw[←hl i];simp only[eK];rw[eC (by omega)];rfl
 have h2:ops[i]?=some ops[i]:=eC hi;rw[h1,h2];simp only[kU,nr,←TL,hl]
theorem aoQ {rd:Option Nat}(hC:CtxOK C σ0)(aS:eD C)(hΦ:dQ C Φ)(hY:qN C Φ w0 σ0){a0:Act}(NG:a0.tmps.size=n){ops:Array Oper}(az:rH n ops=true)(fP:zo ops=true){X:List (List PI)}{Q:Exit→Act→World→Prop}{ρ':Env}(zP:O7 ops=true)(hQp:∀c a w,¬Q (.panic c) a w):
 ∀(k:Nat) {L:List (Nat×Snap)} {T:Snap},Fb ops (sq C.P ops) (PJ C ops n ids X (qm X ops.size)) k L=some T→
  (∀a' w',SameBut (qV ops) a0 a'→Good C w0 σ0 (T.stO ids) ρ' (fun t=>∃E,xK ops E t) a' w'→Q .normal a' w')→
  ∀(E:Nat) (U:Snap),(E,U)∈L→∀(listed:Array Bool) (ρ:Env) (a:Act) (w:World),listed.size=ops.size→(∀i,listed.getD i false=au E i)→SameBut (qV ops) a0 a→
   Good C w0 σ0 (U.stO ids) ρ (xK ops E) a w→PI.runs Φ (fc X (List.range ops.size) E) ρ=some ρ'→wpAnyIn (FR rd) 0 C.P .any ops Q k listed a w:=by
 simp only[rH,aj] at az;have bj:=mW az.1;intro k
 induction k with
 |zero=>
  intro L T hs hQ E U hm listed ρ a w aC hl hn hg af;simp only[Fb] at hs;split at hs
  case h_2=>cases hs
  rename_i x;cases aF:(List.range ops.size).all (au x.1)<;>simp only[aF,cond_true,cond_false] at hs
  ·cases hs
  cases hs;simp only[lL] at hm;subst hm;simp only at aF hg hQ af hl;have jf:=bz.1 aF;have Ni:fc X (List.range ops.size) E=[]:=by
   unfold fc;rw[acU];intro i hi;rw[jf i hi];rfl
  rw[Ni] at af;simp only[PI.runs,aR] at af;subst af;refine⟨?_,hQ a w hn ?_⟩
  ·rw[T3];intro i hi;rw[J7 aC hl] at hi;unfold ml at hi;simp only[cS,aj,iy] at hi;rw[jf i hi.1] at hi;cases hi.2.1
  ·obtain⟨σ,own,hv,h⟩:=hg;exact⟨σ,own,hv,h.defers,h.ok,h.le,h.old,h.newc,h.newm,h.below,h.bw,h.owns,h.regs,h.objs,fun t gs s e=>⟨fun g hm=>⟨E,(h.opts t gs s e).1 g hm⟩,(h.opts t gs s e).2⟩,h.frame⟩
 |succ k ih=>
  intro L T hs hQ E U hm listed ρ a w aC hl hn hg af;simp only[Fb,ao] at hs;obtain⟨L',hL,hs⟩:=hs;obtain⟨_,cA⟩:=Ya hL;obtain⟨ay,Du⟩:=cA _ hm;have ajp:ml ops E≠[]:=fun e=>ay (by unfold pz;rw[e];rfl)
  have bG:∀i,i∈pz ops (sq C.P ops) E→i∈ml ops E:=fun i hi=>by
   unfold pz at hi;split at hi
   ·rename_i i' hp;rw[lL.1 hi];exact(Kt hp).1
   ·exact hi
  have step:∀i,i∈pz ops (sq C.P ops) E→∀Q':Exit→Act→World→Prop,wpOpIn (FR rd) 0 C.P ops Q' i (wpAnyIn (FR rd) 0 C.P .any ops Q k (listed.setIfInBounds i true)) a w:=by
   intro i hi Q';obtain⟨y,hy,hyL⟩:=Du i hi;have hi:=bG i hi;unfold ml at hi;simp only[cS,cr,aj,iy] at hi;obtain⟨bo,dN,uu⟩:=hi;simp only[PJ] at hy;split at hy
   case h_2=>cases hy
   rename_i o ho;simp only[ao] at hy;obtain⟨r,hr,hy⟩:=hy;cases hc:(PI.beqs r.2 (X.getD i [])&&((qm X ops.size).getD i []).all (au E))<;>simp only[hc,cond_true,cond_false] at hy
   ·cases hy
   cases hy;simp only[aj] at hc;have hX:=PI.beqs_eq _ _ hc.1;rw[abA bo dN hc.2,ao] at af;obtain⟨ρ1,hρ1,hρ2⟩:=af;rw[←hX] at hρ1;rw[ho] at uu;simp only at uu;have rf:∀d,o.dst=some d→¬xK ops E d∧d<a.tmps.size:=by
        intro d hd;refine⟨fun⟨i',o',cw,dV,ia⟩=>?_,?_⟩
        ·have ay:i'≠i:=fun e=>by subst e;rw[dN] at cw;cases cw
         exact wc.dst_once bj dV ho ia hd ay
        ·have:=bz.1 az.2 o (by simpa using gE ho);simp only[hd,aj] at this;rw[hn.size,NG];simpa [jc] using this.2
   have j9:oO o.op=true:=by
        have:=bz.1 az.2 o (by simpa using gE ho);simp only[aj] at this;exact this.1
   have hj:∀j want t,o.guard=some (j,want)→(ops[j]?).bind (·.dst)=some t→xK ops E t:=by
        intro j want t gN ht;rw[ao] at ht;obtain⟨oj,h1,h2⟩:=ht;have uz:=bz.1 fP o (by simpa using gE ho);simp only[gN] at uz;obtain⟨e,j4,j5⟩:=vM.1 uz;simp only[aj] at j5;have h3:=bz.1 uu e j4;rw[j5.1] at h3;simp only[rU,qG] at h3;exact⟨j,oj,by rw[←cX j5.2];exact h3,h1,h2⟩
   have main:=Hd (rd:=rd) (K:=wpAnyIn (FR rd) 0 C.P .any ops Q k (listed.setIfInBounds i true)) (Q:=Q') hg hC aS hΦ hY j9 rf hj hr hρ1 (fun a' w' fC rn=>by
        have hA:(fun u=>xK ops E u∨o.dst=some u)=xK ops (Nat.lor E (ed i)):=by
         funext u;apply propext;constructor
         ·rintro(⟨i',o',h1,h2,h3⟩|h1)
          ·exact⟨i',o',by rw[jC,h1,xV],h2,h3⟩
          ·exact⟨i,o,by rw[jC,iI,nY],ho,h1⟩
         ·rintro⟨i',o',h1,h2,h3⟩;rw[jC,gF] at h1;rcases h1 with h1|h1
          ·exact .inl ⟨i',o',h1,h2,h3⟩
          ·rw[←cX h1,ho] at h2;cases h2;exact .inr h3
        rw[hA] at fC
        refine ih hs hQ _ _ hyL _ ρ1 a' w' (by simpa using aC) (fun j=>?_) (hn.trans (rn.mono fun t e=>⟨o,by simpa using gE ho,e⟩)) (by
         have:=fC.snapO U.rs.length ids
         rw[show r.1.snapO U.rs.length ids=⟨vt (lE r.1) r.1 U.rs o.dst.toList,ids.map fun j=>iV r.1 (r.1.o j)⟩ from by
          unfold St.snapO;rw[Fl fun t ht=>?_];rw[Ve hr t (fun e=>ht (by rw[e];simp))];rfl] at this
         exact this) hρ2
        rw[jC];simp only[eK,vG];by_cases cD:i=j
        ·subst cD;simp[aC,bo]
        ·rw[if_neg cD,fu cD,tL,←hl j];simp only[eK])
   simp only[wpOpIn,ho];split
   ·rename_i hw;rw[if_pos hw] at main;exact main
   ·rename_i hw;rw[if_neg hw] at main;exact⟨fun _ _=>trivial,main⟩
  cases NX:A1 (sq C.P ops) E (ml ops E) with
  |none=>
   have mI:pz ops (sq C.P ops) E=ml ops E:=by unfold pz;rw[NX]
   refine⟨fun he=>?_,fun i hi=>step i (by rw[mI];exact(J7 aC hl i).1 hi) Q⟩;exfalso;refine ajp ?_;rw[T3];intro i hi;rw[←J7 aC hl,he] at hi;cases hi
  |some i=>
   have mI:pz ops (sq C.P ops) E=[i]:=by unfold pz;rw[NX]
   obtain⟨hir,b,hb,aie⟩:=Kt NX;obtain⟨oi,Xi,NZ,M3⟩:=adP hb;obtain⟨v,hv,hK⟩:=anI Xi NZ (step i (by rw[mI];simp) _);refine arK (fun j o ho=>?_) Xi (fun j o cs b' ho e=>?_) (fun c a' w' h=>(hQp _ _ _ h).elim) k listed a w (fun j oj hj eX nG eY=>M3 j oj hj eX (fun H8=>?_) eY) ((J7 aC hl i).2 hir) hv hK
   ·have:=bz.1 az.2 o (by simpa using gE ho);simp only[aj] at this;exact this.1
   ·have:=bz.1 zP o (by simpa using gE ho);rw[e] at this;cases this
   ·have h1:=bz.1 aie j H8;have h2:=hl j;rw[h1] at h2;simp only[eK] at h2 nG;cases zF:listed[j]? with
    |none=>rw[zF] at h2;cases h2
    |some x=>
     rw[zF] at h2 nG;simp only[nr] at h2 nG;rw[h2] at nG;cases nG
theorem abS {ops:Array Oper}:∀{l:List Nat} {S:St} {X:List (List PI)},nS C ops l S=some X→X.length=l.length
 |[],S,X,h=>by simp only[nS,aR] at h;subst h;rfl
 |i::l,S,X,h=>by
  simp only[nS] at h;split at h
  case h_2=>cases h
  simp only[ao,ax] at h;obtain⟨r,_,q,hq,rfl⟩:=h;simp[abS hq]
theorem abB (X:List (List PI)):fc X (List.range X.length) 0=X.flatten:=by
 have h0:∀i,au 0 i=false:=fun i=>by rw[su];simp
 have key:∀(Y Z:List (List PI)),fc (Y++Z) (List.range' Y.length Z.length) 0=Z.flatten:=by
  intro Y Z
  induction Z generalizing Y with
  |nil=>rfl
  |cons z Z ih=>
   have:=ih (Y++[z]);simp only[ja,Ue,jy,pv,Bg,fq] at this;rw[pv,FO];have e:fc (Y++z::Z) (Y.length::List.range' (Y.length+1) Z.length) 0=(Y++z::Z).getD Y.length []++fc (Y++z::Z) (List.range' (Y.length+1) Z.length) 0:=by
        unfold fc;rw[rV,h0];rfl
   rw[e,this,T7]
   congr 1
   simp[aH]
 have:=key [] X;simp only[sd,Bg] at this;rw[K5];exact this
theorem aop (aS:eD C)(hΦ:dQ C Φ):La C n ids Φ (J9 C n ids):=by
 intro id ops draw S r hr rd w0 σ0 ρ ρ' a w Q hC hY hn hg af hQ;rw[aoo] at hr;unfold Ka at hr;cases az:rH n ops<;>simp only[az,cond_true,cond_false] at hr
 ·cases hr
 cases draw with
 |false=>
  simp only[cond_false] at hr;cases WO:V5 ops<;>simp only[WO,cond_true,cond_false] at hr
  ·cases hr
  simp only[ax] at hr;obtain⟨q,hq,rfl⟩:=hr;refine wpIn_region ?_
  have kB:mq ops []=fun _=>False:=by
   funext t;apply propext;constructor
   ·rintro⟨i,o,h,_⟩;cases h
   ·intro h;exact h.elim
  refine wc hC aS hΦ hY az (List.range ops.size) [] (by simpa using K4) (fun p i q o j want hl ho gN=>?_) hn (by rw[kB];exact hg) hq af (fun a' w' jI fC=>hQ a' w' jI (by
   have:=fC.snapF S.rs.length ids
   rw[show q.1.snap S.rs.length ids=⟨vt (fH q.1) q.1 S.rs (ops.toList.filterMap (·.dst)),ids.map fun j=>iV q.1 (q.1.o j)⟩ from by
        unfold St.snap;rw[Fl fun t ht=>?_];rw[Md hq t (fun i o hi ho e=>ht (tP.2 ⟨o,by simpa using gE ho,e⟩))];show _=fH q.1 (cQ (S.rs.getD t .none));cases S.rs.getD t .none<;>rfl] at this
   exact this))
  have hi:i<ops.size:=by
   have:i∈List.range ops.size:=by rw[hl];simp
   exact cr.1 this
  have hb:=bz.1 WO i (cr.2 hi);rw[ho] at hb;simp only[gN,jc] at hb;have hp:=List.pairwise_lt_range (n:=ops.size);have uA:j∈List.range ops.size:=cr.2 (by omega);rw[hl,FM] at hp;obtain⟨_,fR,_⟩:=hp;rw[vO] at fR;rw[hl,cR] at uA;simp only[sd];rcases uA with hm|hm
  ·exact hm
  ·rcases cW.1 hm with e|hm
   ·omega
   ·have:=fR.1 j hm;omega
 |true=>
  simp only[cond_true] at hr;cases fP:(zo ops&&O7 ops&&C.P.follows .mixedOrders)<;>simp only[fP,cond_true,cond_false] at hr
  ·cases hr
  simp only[aj] at fP;have zP:=fP.1.2
  replace fP:zo ops=true∧C.P.follows .mixedOrders=true:=⟨fP.1.1,fP.2⟩
  have h0:∀i,au 0 i=false:=fun i=>by rw[su];simp
  split at hr
  case h_1=>
   rename_i r j6;cases hr;generalize IB:pg (dS ops ops.size) ops.size=m at*;unfold VT at j6;rw[IB] at j6;have ajm:m≤ops.size:=IB▸ab9 _ _;have zR:∀i,m≤i→i<ops.size→∀j,j<i→au ((dS ops ops.size).getD i 0) j=true:=IB▸ab8 _ _;rw[ao] at j6;obtain⟨q,hq,j6⟩:=j6;cases uC:Co ops (qm (q.map (·.2)) m) (dS ops ops.size) m<;>simp only[uC,cond_true,cond_false] at j6
   ·cases j6
   rw[ax] at j6;obtain⟨r1,jm,rfl⟩:=j6;refine wpIn_region_any fP.2 ?_
   have kB:vp ops 0=fun _=>False:=by
        funext t;apply propext;constructor
        ·rintro⟨i,o,h,_⟩;rw[h0] at h;cases h
        ·intro h;exact h.elim
   have hlen:(q.map (·.2)).length=m:=by rw[fL];exact(MH hq).1
   have akk:rP ops 0=ops.size:=by
        unfold rP;have:((List.range ops.size).filter fun i=> !au 0 i)=List.range ops.size:=KU.2 fun i _=>by rw[h0];rfl
        rw[this,FL]
   have CO:(List.range m).filter (au 0)=[]:=KT.2 fun i _=>by rw[h0];simp
   simp only[pf,ao] at af;obtain⟨ρ1,hρ1,hρ2⟩:=af;have NU:=uC;unfold Co at NU;rw[aj] at NU;refine agn (w0:=w0) (S:=S.st ids) hC aS hΦ hY hn az fP.1 ajm hq uC zR (ρ':=ρ1) (fun listed a' w' aC hl jI fC=>?_) ops.size 0 _ ρ a _ akk (fun j hj=>by rw[h0] at hj;cases hj) (fun j _ hj=>by rw[h0] at hj;cases hj) (by simp) (fun i=>?_) (.refl _ _) ?_ ?_
   ·refine apd hC aS hΦ hY az fP.1 NU.2 zR (ops.size-m) m listed (by omega) (aX _) aC hl (jI.size.trans hn) fC jm hρ2 (fun a2 w2 s2 g2=>hQ a2 w2 (jI.trans s2) (by
     have:=g2.snapF S.rs.length ids
     rw[show r1.1.snap S.rs.length ids=⟨vt (fH r1.1) r1.1 S.rs (ops.toList.filterMap (·.dst)),ids.map fun j=>iV r1.1 (r1.1.o j)⟩ from by
      unfold St.snap;rw[Fl fun t ht=>?_];rw[Md jm t (fun i o hi ho e=>ht (tP.2 ⟨o,by simpa using gE ho,e⟩))]
      have e1:fW ops (q.map (·.1)) (List.range m) (S.st ids).r t=(S.st ids).r t:=Fj fun i hi e=>by
        rw[ao] at e;obtain⟨o,ho,hd⟩:=e;exact ht (tP.2 ⟨o,by simpa using gE ho,hd⟩)
      show fH _ (S.rs.getD t .none)=fH _ (fW ops (q.map (·.1)) (List.range m) (S.st ids).r t);rw[e1];show _=fH _ (cQ (S.rs.getD t .none));cases S.rs.getD t .none<;>rfl] at this
     exact this))
   ·rw[h0];simp only[eK,acC];split<;>rfl
   ·rw[kB,CO];exact hg.drew
   ·rw[←hlen,abB];exact hρ1
  simp only[Wq,Snap.hard_eq,ao,ax] at hr;obtain⟨X,hX,T,hT,rfl⟩:=hr;refine wpIn_mono (Q:=fun e a w=>(∀c,e≠.panic c)∧Q e a w) ?_ fun e a w h=>h.2;refine wpIn_region_any fP.2 ?_
  have kB:xK ops 0=fun _=>False:=by
   funext t;apply propext;constructor
   ·rintro⟨i,o,h,_⟩;rw[h0] at h;cases h
   ·intro h;exact h.elim
  have hlen:=abS hX;rw[FL] at hlen
  refine aoQ (w0:=w0) hC aS hΦ hY hn az fP.1 (ρ':=ρ') zP (fun c a w h=>h.1 c rfl) ops.size hT (fun a' w' jI fC=>⟨fun c e=>(by cases e),hQ a' w' jI (by
   have:=fC.snapF T.rs.length ids
   rw[show(T.stO ids).snap T.rs.length ids=⟨T.rs.map (fH (T.stO ids)),ids.map fun j=>iV (T.stO ids) ((T.stO ids).o j)⟩ from by
        unfold St.snap;have:=Fl (g:=fH (T.stO ids)) (S:=T.stO ids) (rs:=T.rs) (ds:=[]) (fun t _=>rfl);rw[←this];rfl] at this
   exact this)⟩) 0 _ (lL.2 rfl) _ ρ a _ (by simp) (fun i=>?_) (.refl _ _) ?_ ?_
  ·rw[h0];simp only[eK,acC];split<;>rfl
  ·rw[kB];have:=(hg.drew).snapO S.rs.length ids
   rw[show(S.st ids).snapO S.rs.length ids=⟨S.rs.map fun s=>lE (S.st ids) (cQ s),ids.map fun j=>iV (S.st ids) ((S.st ids).o j)⟩ from by
        unfold St.snapO
        have:=Fl (g:=fun s=>lE (S.st ids) (cQ s)) (S:=S.st ids) (rs:=S.rs) (ds:=[]) (fun t _=>by
         show lE _ (cQ (S.rs.getD t .none))=lE _ (cQ (cQ (S.rs.getD t .none)));cases S.rs.getD t .none<;>rfl)
        have h2:(fun t=>lE (S.st ids) (cQ ((S.st ids).r t)))=fun t=>lE (S.st ids) ((S.st ids).r t):=by
         funext t;show lE _ (cQ (cQ (S.rs.getD t .none)))=lE _ (cQ (S.rs.getD t .none));cases S.rs.getD t .none<;>rfl
        rw[h2] at this;rw[←this];rfl] at this
   exact this
  ·rw[←hlen,abB];exact af
end
end Cx
