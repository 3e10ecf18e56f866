/-
  Regions: in the order of the text, and in every order that their edges allow.
-/
import Derived.Test.YtipjidjopglknaaGreatDoorMAG
import Derived.OrdersIn
set_option linter.defProp false
set_option linter.unusedSimpArgs false
set_option linter.unusedVariables false
namespace Cx
open Go Go.RowKit
def l7 (S:St):Sh->Sh
 |.opt gs s=>.opt gs (fS S s)
 |s=>fS S s
def St.snapO (n:Nat)(ids:List Nat)(S:St):Snap:=⟨(List.range n).map λt=>l7 S (S.r t),ids.map λj=>jo S (S.o j)⟩
def Snap.stO (ids:List Nat)(s:Snap):St:=⟨λt=>s.rs.getD t .none,λj=>dT ids s.os j,λ_=>0⟩
def sQ (S:St)(s:Sh):∀gs s',fS S s≠.opt gs s':=by
 intro gs s' e;cases s<;>simp only[fS] at e<;>first|cases e|(revert e;cases Nat.beq _ _<;>intro e<;>cases e)|(revert e;cases List.all _ _<;>intro e<;>cases e)
section
variable {C:Ctx} {S:St} {O:Env} {V:Im} {own:Nat->Option Nat} {hv:Nat->Value} {w0:World} {σ0:Base} {A:Nat->Prop} {a:Act} {w:World} {n:Nat} {ids:List Nat} {Z:aQ}
def av2 {s:Sh}{v:Value}{d:D}(h:aI C S O V hv s v d){T:St}(hT:T.ver=λ_=>0):aI C T O V hv (l7 S s) v d:=by
 have hc:Compat S.norm hv T hv:=⟨λj=>by rw[hT];exact qx _,λ_ _=>rfl⟩
 have key:∀s,aI C S O V hv s v d->aI C T O V hv (fS S s) v d:=λs hs=>aI.mono' (.refl V) hc (sQ S s) (MN hs).1;cases s with
 |opt gs s=>exact⟨λhh=>key s (h.1 hh),h.2⟩
 |_=>exact key _ h
def Good.snapO (h:Good C w0 σ0 S O A a w)(n:Nat)(ids:List Nat):Good C w0 σ0 ((S.snapO n ids).stO ids) O A a w:=by
 obtain⟨V,own,hv,h⟩:=h;have h1:=h.norm;have hc:Compat S.norm hv ((S.snapO n ids).stO ids) hv:=⟨λ_=>bj _,λ_ _=>rfl⟩
 refine⟨V,own,hv,h.defers,h.ok,h.le,h.old,h.newc,h.newm,h.below,h.bw,h.owns,λt=>?_,λj=>?_,λt gs s e=>?_,?_⟩
 rotate_right
 .obtain⟨t,fx,cx,f1,f5⟩:=h.frame;refine⟨t,fx,cx,f1,λj hj=>f5 j ?_⟩;exact zw (λj=>jo S (S.o j)) (λob=>ob=.tr->S.o j=.tr) (λe=>by cases e) j aeV ids hj
 .show aI C _ O V hv (((List.range n).map λt=>l7 S (S.r t)).getD t .none) _ _;rw[aK,cL];by_cases ht:t<n
  .rw[rX ht];exact av2 (h.regs t) rfl
  .rw[tM (by simpa using ht)];trivial
 .have ho:=(h1.objs j).mono (.refl V) hc (w:=w) (w':=w) rfl rfl (λk hk=>⟨hk,rfl⟩);exact zw (λj=>jo S (S.o j)) (λob=>cG C _ O V own hv w w0.heap.size j ob) trivial j ho ids
 .change ((List.range n).map λt=>l7 S (S.r t)).getD t .none=.opt gs s at e;rw[aK,cL] at e;by_cases ht:t<n
  .rw[rX ht] at e;simp only[kO,kN] at e;cases hs:S.r t with
   |opt cd s'=>
    rw[hs] at e;simp only[l7,Sh.opt.injEq] at e;obtain⟨rfl,rfl⟩:=e;exact⟨(h.opts t cd s' hs).1,sQ S s'⟩
   |none=>rw[hs] at e;exact absurd e (sQ S .none gs s)
   |yv=>rw[hs] at e;exact absurd e (sQ S .yv gs s)
   |fclo f c=>rw[hs] at e;exact absurd e (sQ S (.fclo f c) gs s)
   |agg l=>rw[hs] at e;exact absurd e (sQ S (.agg l) gs s)
   |dat t=>rw[hs] at e;exact absurd e (sQ S (.dat t) gs s)
   |obj t u=>rw[hs] at e;exact absurd e (sQ S (.obj t u) gs s)
   |ptr t u v=>rw[hs] at e;exact absurd e (sQ S (.ptr t u v) gs s)
   |eptr t u v x=>rw[hs] at e;exact absurd e (sQ S (.eptr t u v x) gs s)
  .rw[tM (by simpa using ht)] at e;cases e
def Good.snapF (h:Good C w0 σ0 S O A a w)(n:Nat)(ids:List Nat):Good C w0 σ0 ((S.snap n ids).st ids) O (λ_=>False) a w:=by
 obtain⟨V,own,hv,h⟩:=h;exact⟨V,own,hv,h.snap n ids⟩
def Good.drew (h:Good C w0 σ0 S O A a w):Good C w0 σ0 S O A a {w with drawn:=w.drawn+1}:=by
 obtain⟨V,own,hv,h⟩:=h;refine⟨V,own,hv,h.defers,⟨λk o v e=>h.ok.c k o v e,λk es e=>h.ok.m k es e,λk o n e=>h.ok.f k o n e⟩,h.le,h.old,h.newc,h.newm,h.below.drew,h.bw,h.owns,h.regs,λj=>?_,h.opts,?_⟩
 rotate_right
 .obtain⟨t,fx,cx,f1,f2⟩:=h.frame;exact⟨t,fx,cx,⟨σ0.keep _ _ _ _ _ f1.F (Below.drew (.refl _ _)) (λ_ _=>rfl),f1.own,f1.c,f1.m,f1.d⟩,f2⟩
 exact(h.objs j).mono (.refl V) (.refl S hv) rfl rfl (λk hk=>⟨hk,rfl⟩)
end
def xD (g:Sh->Sh)(S:St)(rs:List Sh)(ds:List Nat):List Sh:=(ds.foldl (λl d=>l.set d (S.r d)) rs).map g
def abR (S:St):∀(ds:List Nat) (rs:List Sh),(ds.foldl (λl d=>l.set d (S.r d)) rs).length=rs.length/\∀t,t<rs.length->(ds.foldl (λl d=>l.set d (S.r d)) rs).getD t .none=if t∈ds then S.r t else rs.getD t .none
 |[],rs=>⟨rfl,λt _=>by simp⟩
 |d::ds,rs=>by
  obtain⟨h1,h2⟩:=abR S ds (rs.set d (S.r d));simp only[List.length_set] at h1 h2;refine⟨h1,λt ht=>?_⟩;rw[Jc,h2 t ht];simp only[cU,aK,Eb];by_cases hm:t∈ds
  .simp[hm]
  .by_cases e:d=t
   .subst e;simp[hm,ht]
   .have e':¬t=d:=λh=>e h.symm;simp[hm,e,e']
def IS {g:Sh->Sh}{S:St}{rs:List Sh}{ds:List Nat}(h:∀t,t∉ds->g (rs.getD t .none)=g (S.r t)):xD g S rs ds=(List.range rs.length).map λt=>g (S.r t):=by
 obtain⟨h1,h2⟩:=abR S ds rs;unfold xD;apply Z7;intro t;simp only[cL];by_cases ht:t<rs.length
 .have:=h2 t ht;rw[aK,bI (by omega)] at this;rw[bI (by omega),rX ht];simp only[kN,kO] at this ⊢;rw[this];by_cases hm:t∈ds
  .simp[hm]
  .simp only[hm,if_false];rw[h t hm]
 .rw[tM (by omega),tM (by simpa using ht)];rfl
def Sh.hd {α:Type}(s:Sh)(k:Sh->α):α:=
 match s with
 |.none=>k .none
 |.dat t=>k (.dat t)
 |.obj j v=>k (.obj j v)
 |.ptr j v o=>k (.ptr j v o)
 |.eptr j v z o=>k (.eptr j v z o)
 |.opt gs s=>k (.opt gs s)
 |.yv=>k .yv
 |.fclo f c=>k (.fclo f c)
 |.agg l=>k (.agg l)
def Sh.hd_eq {α:Type}(s:Sh)(k:Sh->α):s.hd k=k s:=by cases s<;>rfl
def Cd {α:Type}:List Sh->(List Sh->α)->α
 |[],k=>k []
 |s::l,k=>s.hd λs=>Cd l λl=>k (s::l)
def Rv {α:Type}:∀(l:List Sh) (k:List Sh->α),Cd l k=k l
 |[],_=>rfl
 |s::l,k=>by rw[Cd,Sh.hd_eq,Rv l]
def Ob.hd {α:Type}(s:Ob)(k:Ob->α):α:=
 match s with
 |.dead=>k .dead
 |.fz t=>k (.fz t)
 |.fbox t=>k (.fbox t)
 |.box true l=>Cd l λl=>k (.box true l)
 |.box false l=>Cd l λl=>k (.box false l)
 |.row T e=>k (.row T e)
 |.mp a b=>k (.mp a b)
 |.it a b=>k (.it a b)
 |.tr=>k .tr
def Ob.hd_eq {α:Type}(s:Ob)(k:Ob->α):s.hd k=k s:=by
 cases s with
 |box ag l=>cases ag<;>simp only[Ob.hd,Rv]
 |_=>rfl
def LI {α:Type}:List Ob->(List Ob->α)->α
 |[],k=>k []
 |s::l,k=>s.hd λs=>LI l λl=>k (s::l)
def acg {α:Type}:∀(l:List Ob) (k:List Ob->α),LI l k=k l
 |[],_=>rfl
 |s::l,k=>by rw[LI,Ob.hd_eq,acg l]
def Snap.hard {α:Type}(s:Snap)(k:Snap->α):α:=Cd s.rs λa=>LI s.os λb=>k ⟨a,b⟩
def Snap.hard_eq {α:Type}(s:Snap)(k:Snap->α):s.hard k=k s:=by rw[Snap.hard,Rv,acg]
def LJ {α β:Type}:List β->(List β->α)->α
 |[],k=>k []
 |s::l,k=>LJ l λl=>k (s::l)
def aci {α β:Type}:∀(l:List β) (k:List β->α),LJ l k=k l
 |[],_=>rfl
 |s::l,k=>by rw[LJ,aci l]
def FN {α β:Type}:List (List β)->(List (List β)->α)->α
 |[],k=>k []
 |s::l,k=>LJ s λs=>FN l λl=>k (s::l)
def ach {α β:Type}:∀(l:List (List β)) (k:List (List β)->α),FN l k=k l
 |[],_=>rfl
 |s::l,k=>by rw[FN,aci,ach l]
def aE (P:Program){α:Type}(s:Sem α):Prop:=(∃a,∀w,s.run P w=.ok a w)\/∀w,∃h w',s.run P w=.halt h w'
section
variable {P:Program}
def aE.pure {α:Type}(a:α):aE P (Sem.pure a):=.inl ⟨a,λw=>rfl⟩
def aE.pure' {α:Type}(a:α):aE P (Pure.pure a:Sem α):=.inl ⟨a,λw=>rfl⟩
def aE.halt {α:Type}(h:Halt):aE P (Sem.halt h:Sem α):=.inr λw=>⟨h,w,rfl⟩
def aE.bind' {α β:Type}{s:Sem α}{f:α->Sem β}(h:aE P s)(hf:∀a,(∀w,s.run P w=.ok a w)->aE P (f a)):aE P (s>>=f):=by
 rcases h with⟨a,ha⟩|hd
 .rcases hf a ha with⟨b,hb⟩|hd
  .exact .inl ⟨b,λw=>by rw[Sem.run_bind,ha w];exact hb w⟩
  .refine .inr λw=>?_;obtain⟨x,w',e⟩:=hd w;exact⟨x,w',by rw[Sem.run_bind,ha w];exact e⟩
 .refine .inr λw=>?_;obtain⟨x,w',e⟩:=hd w;exact⟨x,w',by rw[Sem.run_bind,e];rfl⟩
def aE.bind {α β:Type}{s:Sem α}{f:α->Sem β}(h:aE P s)(hf:∀a,aE P (f a)):aE P (s>>=f):=h.bind' λa _=>hf a
def cH {α:Type}(s:Sem α):Prop:=∀P w,∃h w',s.run P w=.halt h w'
def cH.noW {α:Type}{s:Sem α}(h:cH s):aE P s:=.inr (h P)
def cH.halt {α:Type}(h:Halt):cH (Sem.halt h:Sem α):=λP w=>⟨h,w,rfl⟩
def cH.of_bind {α β:Type}{s:Sem α}{f:α->Sem β}(hf:∀a,cH (f a)):cH (s>>=f):=by
 intro P w;rw[Sem.run_bind];cases e:s.run P w with
 |ok a w'=>exact hf a P w'
 |halt h w'=>exact⟨h,w',rfl⟩
def aE.asBool (v:Value):aE P (Go.asBool v):=by
 cases v<;>first|exact .pure _|exact .halt _
def aE.asIntOf (v:Value):aE P (Go.asIntOf v):=by
 unfold Go.asIntOf;split<;>first|exact .pure _|exact .halt _
def aE.sureAddr (v:Value):aE P (Instr.sureAddr v):=by
 unfold Instr.sureAddr;split<;>first|exact .pure _|exact .halt _
def aE.prog:aE P Go.program:=.inl ⟨P,λw=>rfl⟩
def aE.underlying (t:TypeId):aE P (Go.underlying t):=by
 unfold Go.underlying;refine .bind .prog λp=>?_;split<;>first|exact .pure _|exact .halt _
def aE.sizeOf (t:TypeId):aE P (Go.sizeOf t):=by
 unfold Go.sizeOf Go.typeInfo;refine .bind (.bind .prog λp=>?_) λ_=>.pure _;split<;>first|exact .pure _|exact .halt _
def cH.runtimePanic {α:Type}(e:RuntimeError):cH (Go.runtimePanic e:Sem α):=by
 unfold Go.runtimePanic;refine .of_bind λp=>?_;cases e<;>first|exact .halt _|exact .of_bind λ_=>.halt _|exact .of_bind λ_=>.of_bind λ_=>.halt _
def cH.boundsPanic {α:Type}(k:IntKind)(x y:Int)(c:BoundsCode):cH (Go.boundsPanic k x y c:Sem α):=by
 unfold Go.boundsPanic;dsimp only;split<;>exact .of_bind λ_=>.runtimePanic _
def aE.indexAt (t:TypeId)(x i:Value):aE P (Instr.indexAt t x i):=by
 unfold Instr.indexAt
 repeat' (first|(first|exact aE.pure _|exact aE.pure' _|exact aE.halt _|exact cH.noW (cH.boundsPanic _ _ _ _)|exact cH.noW (cH.runtimePanic _)|exact aE.prog|exact aE.underlying _|exact aE.sizeOf _|exact aE.asIntOf _|exact aE.sureAddr _|exact aE.asBool _)|(refine aE.bind ?_ λ_=>?_)|dsimp only|split)
def aE.sliceBound (x:Value)(y:Nat)(c:BoundsCode):aE P (Instr.sliceBound x y c):=by
 unfold Instr.sliceBound
 repeat' (first|(first|exact aE.pure _|exact aE.pure' _|exact aE.halt _|exact cH.noW (cH.boundsPanic _ _ _ _)|exact cH.noW (cH.runtimePanic _)|exact aE.prog|exact aE.underlying _|exact aE.sizeOf _|exact aE.asIntOf _|exact aE.sureAddr _|exact aE.asBool _)|(refine aE.bind ?_ λ_=>?_)|dsimp only|split)
def aE.sliceBounds (b:Bool)(n m:Nat)(lo hi mx:Option Value):aE P (Instr.sliceBounds b n m lo hi mx):=by
 unfold Instr.sliceBounds
 repeat' (first|exact aE.sliceBound _ _ _|(first|exact aE.pure _|exact aE.pure' _|exact aE.halt _|exact cH.noW (cH.boundsPanic _ _ _ _)|exact cH.noW (cH.runtimePanic _)|exact aE.prog|exact aE.underlying _|exact aE.sizeOf _|exact aE.asIntOf _|exact aE.sureAddr _|exact aE.asBool _)|(refine aE.bind ?_ λ_=>?_)|dsimp only|split)
def aE.asAddr (v:Value):aE P (Go.asAddr v):=by
 unfold Go.asAddr
 repeat' (first|(first|exact aE.pure _|exact aE.pure' _|exact aE.halt _|exact cH.noW (cH.boundsPanic _ _ _ _)|exact cH.noW (cH.runtimePanic _)|exact aE.prog|exact aE.underlying _|exact aE.sizeOf _|exact aE.asIntOf _|exact aE.sureAddr _|exact aE.asBool _)|(refine aE.bind ?_ λ_=>?_)|dsimp only|split)
def aE.slice (t:TypeId)(x:Value)(lo hi mx:Option Value):aE P (Instr.slice t x lo hi mx):=by
 unfold Instr.slice
 repeat' (first|exact aE.sliceBounds _ _ _ _ _ _|exact aE.asAddr _|(first|exact aE.pure _|exact aE.pure' _|exact aE.halt _|exact cH.noW (cH.boundsPanic _ _ _ _)|exact cH.noW (cH.runtimePanic _)|exact aE.prog|exact aE.underlying _|exact aE.sizeOf _|exact aE.asIntOf _|exact aE.sureAddr _|exact aE.asBool _)|(refine aE.bind ?_ λ_=>?_)|dsimp only|split)
def aE.sliceAt (t:TypeId)(x:Value)(lo hi mx:Option Value):aE P (Instr.sliceAt t x lo hi mx):=by
 unfold Instr.sliceAt
 repeat' (first|exact aE.sliceBounds _ _ _ _ _ _|exact aE.slice _ _ _ _ _|(first|exact aE.pure _|exact aE.pure' _|exact aE.halt _|exact cH.noW (cH.boundsPanic _ _ _ _)|exact cH.noW (cH.runtimePanic _)|exact aE.prog|exact aE.underlying _|exact aE.sizeOf _|exact aE.asIntOf _|exact aE.sureAddr _|exact aE.asBool _)|(refine aE.bind ?_ λ_=>?_)|dsimp only|split)
def WB (P:Program)(s:TypeId)(i:Nat):Bool:=
 match P.underlying s with
 |some (.struct fs)=>(match fs[i]? with
  |some f=>(match P.info? f.type with|some d=> !Nat.beq d.size 0|none=>false)
  |none=>false)
 |_=>false
def aE.fieldAt {s:TypeId}{i:Nat}(h:WB P s i=true)(a:Value):aE P (Instr.fieldAt s a i):=by
 unfold Instr.fieldAt;refine .bind' (.underlying _) λd hd=>?_;have hu:P.underlying s=some d:=by
  have:=hd default;unfold Go.underlying at this;rw[Sem.run_bind] at this;change Result.andThen (.ok P default) _=_ at this;simp only[Result.andThen_ok] at this;cases hp:P.underlying s with
  |none=>rw[hp] at this;cases this
  |some d'=>
   rw[hp] at this;change Result.ok d' default=_ at this;cases this;rfl
 unfold WB at h;rw[hu] at h;cases d<;>dsimp only at h ⊢<;>try (first|exact aE.pure _|exact aE.pure' _|exact aE.halt _|exact cH.noW (cH.boundsPanic _ _ _ _)|exact cH.noW (cH.runtimePanic _)|exact aE.prog|exact aE.underlying _|exact aE.sizeOf _|exact aE.asIntOf _|exact aE.sureAddr _|exact aE.asBool _)
 rename_i fs;cases hf:fs[i]? with
 |none=>dsimp only;(first|exact aE.pure _|exact aE.pure' _|exact aE.halt _|exact cH.noW (cH.boundsPanic _ _ _ _)|exact cH.noW (cH.runtimePanic _)|exact aE.prog|exact aE.underlying _|exact aE.sizeOf _|exact aE.asIntOf _|exact aE.sureAddr _|exact aE.asBool _)
 |some f=>
  rw[hf] at h;dsimp only at h ⊢;refine .bind (.sureAddr _) λa=>.bind ?_ λ_=>.pure _;unfold Go.fieldPlace;refine .bind' (.sizeOf _) λn hn=>?_;have hz:n≠0:=by
   intro e;have:=hn default;unfold Go.sizeOf Go.typeInfo at this;cases hi:P.info? f.type with
   |none=>rw[hi] at h;cases h
   |some inf=>
    rw[hi] at h;rw[Sem.run_bind,Sem.run_bind] at this;change Result.andThen (Result.andThen (.ok P default) _) _=_ at this;simp only[Result.andThen_ok,hi] at this;change Result.ok inf.size default=_ at this;cases this;dsimp only at h;rw[e] at h;cases h
  rw[if_neg hz]
  (first|exact aE.pure _|exact aE.pure' _|exact aE.halt _|exact cH.noW (cH.boundsPanic _ _ _ _)|exact cH.noW (cH.runtimePanic _)|exact aE.prog|exact aE.underlying _|exact aE.sizeOf _|exact aE.asIntOf _|exact aE.sureAddr _|exact aE.asBool _)
def G9 (P:Program):Op->Bool
 |.move _=>true
 |.assign _=>true
 |.pick ..=>true
 |.fieldAddr s _ i=>WB P s i
 |.indexAddr ..=>true
 |.slice ..=>true
 |_=>false
def axa {o:Oper}(hp:G9 P o.op=true)(O:Operand->Value):(∃v,∀w,(execOp O o).run P w=.ok (.value v) w)\/∀w,∃h w',(execOp O o).run P w=.halt h w':=by
 have key:∀s:Sem Value,aE P s->(∃v,∀w,(do Pure.pure (Next.value (<-s)):Sem Next).run P w=.ok (.value v) w)\/∀w,∃h w',(do Pure.pure (Next.value (<-s)):Sem Next).run P w=.halt h w':=by
  intro s hs;rcases hs with⟨a,ha⟩|hd
  .exact .inl ⟨a,λw=>by rw[Sem.run_bind,ha w];rfl⟩
  .refine .inr λw=>?_;obtain⟨x,w',e⟩:=hd w;exact⟨x,w',by rw[Sem.run_bind,e];rfl⟩
 obtain⟨dst,op,type,pos,after,guard⟩:=o;cases op<;>first|(cases hp;done)|skip
 case move x=>exact .inl ⟨_,λw=>rfl⟩
 case assign x=>exact .inl ⟨_,λw=>rfl⟩
 case pick c a b=>
  have:=key (do Pure.pure (if<-Go.asBool (O c) then O a else O b)) (.bind (.asBool _) λ_=>.pure _);simp only[execOp];rcases aE.asBool (P:=P) (O c) with⟨t,ht⟩|hd
  .exact .inl ⟨_,λw=>by rw[Sem.run_bind,ht w];rfl⟩
  .refine .inr λw=>?_;obtain⟨x,w',e⟩:=hd w;exact⟨x,w',by rw[Sem.run_bind,e];rfl⟩
 case fieldAddr s x i=>exact key _ (.fieldAt hp _)
 case indexAddr t x i=>exact key _ (.indexAt _ _ _)
 case slice t x lo hi mx=>exact key _ (.sliceAt _ _ _ _ _)
def axb {rd:Option Nat}{ops:Array Oper}{i:Nat}{o:Oper}{a:Act}{w:World}{K:Act->World->Prop}(hi:ops[i]?=some o)(hp:G9 P o.op=true)
 (h:wpOpIn (FR rd) 0 P ops (λ_ _ _=>False) i K a w):∃v,YieldsFenced P ops o v a/\K (a.put o.dst v) w:=by
 have bC:∀c,o.op≠.defer c:=λc e=>by rw[e] at hp;cases hp
 have Cc:∀w,o.about P w a.eval=none:=λw=>by
  unfold Oper.about;cases ho:o.op<;>first|rfl|(rw[ho] at hp;cases hp)
 unfold wpOpIn at h;rw[hi] at h;dsimp only at h;cases hw:Region.wanted o (yielded ops a.tmps) with
 |false=>
  rw[hw] at h;exact⟨undef,⟨.inr ⟨hw,rfl⟩,Cc⟩,h.2⟩
 |true=>
  rw[hw,if_pos rfl] at h;have h2:=h.2;rw[Oper.semAt_eq _ _ _ bC] at h2;rcases axa hp a.eval with⟨v,hv⟩|hd
  .rw[hv w] at h2;exact⟨v,⟨.inl ⟨hw,hv⟩,Cc⟩,h2⟩
  .obtain⟨x,w',e⟩:=hd w;rw[e] at h2;cases x<;>exact h2.elim
section
variable {F:Fence} {n:Nat} {ops:Array Oper} {Q:Exit->Act->World->Prop} {md:Region.Mode}
def YF.wpOpIn {i:Nat}{o:Oper}{v:Value}{a:Act}(bC:pR o.op=true)(hi:ops[i]?=some o)(hy:YieldsFenced P ops o v a)
 {K:Act->World->Prop} {w:World} (h:K (a.put o.dst v) w):wpOpIn F n P ops Q i K a w:=by
 have kz:∀c,o.op≠.defer c:=λc e=>by rw[e] at bC;cases bC
 unfold Go.wpOpIn;simp only[hi];have Cc:∀f,o.about P w a.eval=some f->F.fn f:=λf hf=>by rw[hy.2 w] at hf;cases hf
 rcases hy.1 with⟨hw,hv⟩|⟨hw,rfl⟩
 .simp only[hw,if_true,Oper.wpIn,Oper.semAt_eq _ _ _ kz,hv w,Oper.uponIn];exact⟨Cc,h⟩
 .simp only[hw,xU,if_false];exact⟨Cc,h⟩
def aCK {j:Nat}{oi oj:Oper}{v:Value}(bC:pR oj.op=true)(hj:ops[j]?=some oj)(Ru:oi.apart ops oj=true)
 (zb:∀cs b,oi.op≠.select cs b) (hsj:∀cs b,oj.op≠.select cs b)
 (hQ:∀c a w,Q (.panic c) (a.put oi.dst v) w->Q (.panic c) a w) {K:Act->World->Prop} {a:Act} {w:World}
 (hy:YieldsFenced P ops oi v a) (h:wpOpIn F n P ops Q j K (a.put oi.dst v) w):
 wpOpIn F n P ops Q j (λa' w'=>YieldsFenced P ops oi v a'/\K (a'.put oi.dst v) w') a w:=by
 have kz:∀c,oj.op≠.defer c:=λc e=>by rw[e] at bC;cases bC
 obtain⟨h1,h2,h3⟩:=Oper.apart_spec Ru;have keep:∀(a:Act),YieldsFenced P ops oi v a->∀u,YieldsFenced P ops oi v (a.put oj.dst u):=λa hy u=>
  hy.of_same (execOp_put oi zb a oj.dst u h3) (wanted_put oi a oj.dst u h3) (λw=>about_put oi w a oj.dst u h3)
 have atN:∀d,YieldsFenced P ops oi v {a with defers:=d::a.defers}:=λd=>hy.of_same rfl rfl (λ_=>rfl);unfold Go.wpOpIn at*;simp only[hj] at*;rw[wanted_put oj a oi.dst v h1,about_put oj w a oi.dst v h1] at h;split
 .rename_i hw;simp only[hw,if_true] at h;unfold Oper.wpIn at*;rw[about_put oj w a oi.dst v h1] at h;refine⟨h.1,?_⟩;have h:=h.2;rw[Oper.semAt_eq _ _ _ kz,execOp_put oj hsj a oi.dst v h1] at h;rw[Oper.semAt_eq _ _ _ kz];generalize (execOp a.eval oj).run P w=r at*;cases r with
  |ok x w'=>
   cases x<;>simp only[Oper.uponIn] at h ⊢
   case value u=>exact⟨keep a hy u,by rw[<-Act.put_comm a v u h2];exact h⟩
   case skip=>exact⟨keep a hy _,by rw[<-Act.put_comm a v undef h2];exact h⟩
   case defer d=>
        refine⟨keep _ (atN d) _,?_⟩;rw[<-Act.put_comm _ v undef h2,<-Act.put_defers];exact h
   case enter f args=>
        refine⟨h.1,CallsIn.mono h.2 λe lx he=>?_⟩;cases e with
        |returned u=>exact⟨keep a hy u,by rw[<-Act.put_comm a v u h2];exact he⟩
        |panicked c=>exact hQ _ _ _ he
        |outgrown=>exact he
   case row row args=>exact⟨h.1,RowsIn.mono h.2 λu lx he=>⟨keep a hy u,by rw[<-Act.put_comm a v u h2];exact he⟩⟩
   case round l f tmps assign body=>
        refine⟨h.1,RoundIn.mono h.2 λe lx he=>?_⟩;cases e with
        |returned u=>exact⟨keep a hy u,by rw[<-Act.put_comm a v u h2];exact he⟩
        |panicked c=>exact hQ _ _ _ he
        |outgrown=>exact he
  |halt x w'=>
   cases x<;>simp only[Oper.uponIn] at h ⊢
   case panic u=>exact hQ _ _ _ h
 .rename_i hw;simp only[hw] at h;exact⟨h.1,keep a hy _,by rw[<-Act.put_comm a v undef h2];exact h.2⟩
def aCJ {i:Nat}{oi:Oper}{v:Value}(bC:∀(j:Nat) (o:Oper),ops[j]?=some o->pR o.op=true)(hi:ops[i]?=some oi)(wL:∀(j:Nat) (o:Oper) cs b,ops[j]?=some o->o.op≠.select cs b)
 (hQ:∀c a w,Q (.panic c) (a.put oi.dst v) w->Q (.panic c) a w):
 ∀(fuel:Nat) (listed:Array Bool) (a:Act) (w:World),
  (∀j oj,ops[j]?=some oj->j≠i->listed.getD j true=false->(∀e∈oj.after,Region.binds md e=true->e.on≠i)->oi.apart ops oj=true)->
  i∈Region.ready md ops listed->YieldsFenced P ops oi v a->
  wpAnyIn F n P md ops Q fuel (listed.setIfInBounds i true) (a.put oi.dst v) w->wpAnyIn F n P md ops Q (fuel+1) listed a w:=by
 intro fuel
 induction fuel with
 |zero=>
  intro listed a w _ hr hy zzt;refine⟨λh=>(by rw[h] at hr;cases hr),λj hj=>?_⟩;by_cases je:j=i
  .subst je;exact YF.wpOpIn (bC _ _ hi) hi hy zzt
  .have:=ready_mono hj je;rw[zzt.1] at this;cases this
 |succ fuel ih=>
  intro listed a w nY hr hy zzt;refine⟨λh=>(by rw[h] at hr;cases hr),λj hj=>?_⟩;by_cases je:j=i
  .subst je;exact YF.wpOpIn (bC _ _ hi) hi hy zzt
  .have h1:=zzt.2 j (ready_mono hj je);obtain⟨acQ,oj,sI,aS⟩:=mem_ready.1 hj
   have Sg:∀e∈oj.after,Region.binds md e=true->e.on≠i:=λe he hb heq=>by
        have h1:=aS e he hb;have h0:=(mem_ready.1 hr).1;rw[heq] at h1;rcases Po i listed.size with h'|h'
        .simp[h'] at h0 h1;rw[h0] at h1;cases h1
        .simp[Array.getElem?_eq_none h'] at h1
   have h2:=aCK (bC _ _ sI) sI (nY j oj sI je acQ Sg) (λcs b=>wL i oi cs b hi) (λcs b=>wL j oj cs b sI) hQ hy h1;have arq:∀k ok,ops[k]?=some ok->k≠i->(listed.setIfInBounds j true).getD k true=false->
    (∀e∈ok.after,Region.binds md e=true->e.on≠i)->oi.apart ops ok=true:=λk ok hk hki mE eH=>by
        refine nY k ok hk hki ?_ eH;by_cases wx:j=k
        .subst wx;exact acQ
        .rw[getD_set_ne true wx] at mE;exact mE
   refine wpOpIn_mono (λa' w' h3=>ih (listed.setIfInBounds j true) a' w' arq (ready_mono hr (ya je)) h3.1 ?_) h2;rw[Array.setIfInBounds_comm _ _ je];exact h3.2
end
end
def tU (P:Program)(ops:Array Oper):List (Option (List Nat)):=(List.range ops.size).map λi=>match ops[i]? with
 |some oi=>bif G9 P oi.op then some ((List.range ops.size).filter λj=> !(Nat.beq j i||(match ops[j]? with|some oj=>(oj.after.toList.any λe=>Region.binds .any e&&Nat.beq e.on i)||oi.apart ops oj|none=>true))) else none
 |none=>none
def DR (bad:List (Option (List Nat)))(E:Nat):List Nat->Option Nat
 |[]=>none
 |i::l=>match bad.getD i none with
  |some b=>bif b.all (aA E) then some i else DR bad E l
  |none=>DR bad E l
def TC (ops:Array Oper):Bool:=ops.toList.all λo=>match o.op with|.select ..=>false|_=>true
def OI {bad:List (Option (List Nat))}{E:Nat}:∀{l:List Nat} {i:Nat},DR bad E l=some i->i∈l/\∃b,bad.getD i none=some b/\b.all (aA E)=true
 |[],_,h=>by cases h
 |i::l,j,h=>by
  unfold DR at h;split at h
  .rename_i b hb;cases hc:b.all (aA E) with
   |true=>
    rw[hc] at h;cases h;exact⟨dZ ..,b,hb,hc⟩
   |false=>
    rw[hc] at h;obtain⟨h1,h2⟩:=OI h;exact⟨dV _ h1,h2⟩
  .obtain⟨h1,h2⟩:=OI h;exact⟨dV _ h1,h2⟩
def amD {P:Program}{ops:Array Oper}{i:Nat}{b:List Nat}(h:(tU P ops).getD i none=some b):∃oi,ops[i]?=some oi/\G9 P oi.op=true/\
 ∀j oj,ops[j]?=some oj->j≠i->j∉b->(∀e∈oj.after,Region.binds .any e=true->e.on≠i)->oi.apart ops oj=true:=by
 unfold tU at h;rw[aK,cL] at h;by_cases hi:i<ops.size
 .rw[rX hi] at h;simp only[kO,kN] at h;rw[gw hi] at h;dsimp only at h;cases hp:G9 P ops[i].op<;>rw[hp] at h<;>simp only[zyy,zyx] at h
  .cases h
  injection h with h
  refine⟨ops[i],gw hi,hp,λj oj hj je L0 eH=>?_⟩;have ak:j<ops.size:=(hZ.1 hj).1;rw[<-h] at L0;have h2:¬(!(Nat.beq j i||(match ops[j]? with|some oj=>(oj.after.toList.any λe=>Region.binds .any e&&Nat.beq e.on i)||ops[i].apart ops oj|none=>true)))=true:=λhc=>L0 (eO.2 ⟨cw.2 ak,hc⟩);rw[hj,ff je] at h2;simp only[rV,iZ,Bool.not_eq_false,fZ] at h2;rcases h2 with h2|h2
  .obtain⟨e,he,hb⟩:=xY.1 h2;rw[au] at hb;exact absurd (dp hb.2) (eH e (by simpa using he) hb.1)
  .exact h2
 .rw[tM (by simpa using hi)] at h;cases h
def GF (E:Nat)(T:Snap):List (Nat×Snap)->Option (List (Nat×Snap))
 |[]=>some [(E,T)]
 |x::l=>bif Nat.beq x.1 E then(bif x.2.beq T then some (x::l) else none) else(GF E T l).map (x::·)
def mS (ops:Array Oper)(E:Nat):List Nat:=
 (List.range ops.size).filter λi=> !aA E i&&(match ops[i]? with|some o=>o.after.toList.all λe=> !Region.binds .any e||aA E e.on|none=>false)
def Us (C:Ctx)(ops:Array Oper)(n:Nat)(ids:List Nat)(X:List (List PI))(nc:List (List Nat))(E:Nat)(T:Snap)(i:Nat):Option (Nat×Snap):=
 match ops[i]? with
 |some o=>(qF C (T.stO ids) ops o).bind λr=>
  bif PI.beqs r.2 (X.getD i [])&&(nc.getD i []).all (aA E) then some (Nat.lor E (eC i),⟨xD (l7 r.1) r.1 T.rs o.dst.toList,ids.map λj=>jo r.1 (r.1.o j)⟩) else none
 |none=>none
def IT (one:Nat->Option (Nat×Snap)):List Nat->List (Nat×Snap)->Option (List (Nat×Snap))
 |[],acc=>some acc
 |i::l,acc=>(one i).bind λx=>x.2.hard λT=>(GF x.1 T acc).bind λacc=>IT one l acc
def qD (ops:Array Oper)(bad:List (Option (List Nat)))(E:Nat):List Nat:=
 match DR bad E (mS ops E) with
 |some i=>[i]
 |none=>mS ops E
def GP (ops:Array Oper)(bad:List (Option (List Nat)))(one:Nat->Snap->Nat->Option (Nat×Snap)):List (Nat×Snap)->List (Nat×Snap)->Option (List (Nat×Snap))
 |[],acc=>some acc
 |x::l,acc=>
  match qD ops bad x.1 with
  |[]=>none
  |rs=>(IT (one x.1 x.2) rs acc).bind λacc=>GP ops bad one l acc
def IM (ops:Array Oper)(bad:List (Option (List Nat)))(one:Nat->Snap->Nat->Option (Nat×Snap)):Nat->List (Nat×Snap)->Option Snap
 |0,L=>
  match L with
  |[x]=>bif (List.range ops.size).all (aA x.1) then some x.2 else none
  |_=>none
 |k+1,L=>(GP ops bad one L []).bind λL=>IM ops bad one k L
def adT {E:Nat}{T:Snap}:∀{l l':List (Nat×Snap)},GF E T l=some l'->(E,T)∈l'/\∀x,x∈l->x∈l'
 |[],l',h=>by simp only[GF,aX] at h;subst h;simp
 |x::l,l',h=>by
  simp only[GF] at h;cases hb:Nat.beq x.1 E<;>simp only[hb,zyy,zyx] at h
  .simp only[aD] at h;obtain⟨l2,h2,rfl⟩:=h;obtain⟨h3,h4⟩:=adT h2;exact⟨dV _ h3,λy hy=>(cU.1 hy).elim (λe=>e▸dZ ..) λhm=>dV _ (h4 y hm)⟩
  .cases hs:x.2.beq T<;>simp only[hs,zyy,zyx] at h
   .cases h
   .cases h;refine⟨?_,λy hy=>hy⟩;have e1:=dp hb;have e2:=Snap.beq_eq _ _ hs;subst e1;subst e2;simp
def ajg {one:Nat->Option (Nat×Snap)}:∀{rs:List Nat} {acc Eg:List (Nat×Snap)},IT one rs acc=some Eg->(∀x,x∈acc->x∈Eg)/\∀i,i∈rs->∃x,one i=some x/\x∈Eg
 |[],acc,Eg,h=>by simp only[IT,aX] at h;subst h;simp
 |i::rs,acc,Eg,h=>by
  simp only[IT,Snap.hard_eq,ay] at h;obtain⟨x,hx,alG,h1,h2⟩:=h;obtain⟨h3,h4⟩:=adT h1;obtain⟨h5,h6⟩:=ajg h2;refine⟨λy hy=>h5 y (h4 y hy),λj hj=>?_⟩;rcases cU.1 hj with e|hm
  .subst e;exact⟨x,hx,h5 _ h3⟩
  .exact h6 j hm
def aee {ops:Array Oper}{bad:List (Option (List Nat))}{one:Nat->Snap->Nat->Option (Nat×Snap)}:∀{L acc L':List (Nat×Snap)},GP ops bad one L acc=some L'->
 (∀x,x∈acc->x∈L')/\∀x,x∈L->qD ops bad x.1≠[]/\∀i,i∈qD ops bad x.1->∃y,one x.1 x.2 i=some y/\y∈L'
 |[],acc,L',h=>by simp only[GP,aX] at h;subst h;simp
 |x::L,acc,L',h=>by
  simp only[GP] at h;split at h
  .cases h
  .rename_i aB;simp only[ay] at h;obtain⟨alG,h1,h2⟩:=h;obtain⟨h3,h4⟩:=ajg h1;obtain⟨h5,h6⟩:=aee h2;refine⟨λy hy=>h5 y (h3 y hy),λy hy=>?_⟩;rcases cU.1 hy with e|hm
   .subst e;refine⟨λe=>aB e,λi hi=>?_⟩;obtain⟨z,hz,hm⟩:=h4 i hi;exact⟨z,hz,h5 z hm⟩
   .exact h6 y hm
def fq (X:List (List PI))(l:List Nat)(E:Nat):List PI:=l.flatMap λi=>bif aA E i then[] else X.getD i []
def Wl {X:List (List PI)}{E E':Nat}:∀(l:List Nat),(∀i,i∈l->aA E i=aA E' i)->fq X l E=fq X l E'
 |[],_=>rfl
 |i::l,h=>by
  have ih:=Wl (X:=X) l λj hj=>h j (dV _ hj);unfold fq at ih ⊢;simp only[xZ];rw[ih,h i (dZ ..)]
def Foot.comm_each {a b:List PI}(h:(jd a).comm (jd b)=true):∀p q,p∈a->q∈b->Comm p q:=by
 simp only[Foot.comm,au] at h;obtain⟨h1,h2,h3,h4,h5,h6⟩:=h;intro p q hp hq;obtain⟨p1,p2,p3,p4⟩:=abS hp;obtain⟨q1,q2,q3,q4⟩:=abS hq;exact⟨λt x y=>Th h1 (p1 t x) (q1 t y),λt x y=>Th h2 (p1 t x) (q3 t y),λt x y=>Th h3 (q1 t x) (p3 t y),λt x y=>PH h4 (p2 t x) (q2 t y),λt x y=>PH h5 (p2 t x) (q4 t y),λt x y=>PH h6 (q2 t x) (p4 t y)⟩
def ru (X:List (List PI))(N:Nat):List (List Nat):=
 (List.range N).map λi=>(List.range i).filter λj=> !(jd (X.getD j [])).comm (jd (X.getD i []))
def jV (E i j:Nat):aA (Nat.lor E (eC i)) j=(aA E j||Nat.beq i j):=by
 rw[gd]
 congr 1
 rw[tX];show(1<<<i).testBit j=_;rw[Nat.testBit_shiftLeft];by_cases h:i=j
 .subst h;simp
 .have h1:Nat.beq i j=false:=ff h;rw[h1];by_cases h2:i<=j
  .have:j-i≠0:=by omega
   cases hk:j-i with
   |zero=>omega
   |succ k=>
    have:(1:Nat).testBit (k+1)=false:=by simp[Nat.testBit_succ]
    simp[this]
  .simp[h2]
def aiK {X:List (List PI)}{N E i:Nat}(hi:i<N)(hb:aA E i=false)(dw:((ru X N).getD i []).all (aA E)=true)(Z:aQ)(O:Env):
 PI.runs Z (fq X (List.range N) E) O=(PI.runs Z (X.getD i []) O).bind (PI.runs Z (fq X (List.range N) (Nat.lor E (eC i)))):=by
 obtain⟨l1,l2,hl⟩:=Z3 (cw.2 hi);have hp:=aag (n:=N);rw[hl,aaf] at hp;obtain⟨_,iv,hp3⟩:=hp;rw[x9] at iv;have lt1:∀j,j∈l1->j<i:=λj hj=>hp3 j hj i (dZ ..);have lt2:∀j,j∈l2->i<j:=λj hj=>iv.1 j hj;have e0:∀E,fq X (l1++i::l2) E=fq X l1 E++((bif aA E i then[] else X.getD i [])++fq X l2 E):=λE=>by simp[fq]
 have e1:fq X l1 (Nat.lor E (eC i))=fq X l1 E:=Wl l1 λj hj=>by
  rw[jV,ff (by have:=lt1 j hj;omega),vA]
 have e2:fq X l2 (Nat.lor E (eC i))=fq X l2 E:=Wl l2 λj hj=>by
  rw[jV,ff (by have:=lt2 j hj;omega),vA]
 have e3:aA (Nat.lor E (eC i)) i=true:=by rw[jV,iL,oR]
 rw[hl,e0,e0,e1,e2,e3,hb];simp only[zyy,zyx,vJ]
 have aq7:PI.runs Z (fq X l1 E++X.getD i [])=PI.runs Z (X.getD i []++fq X l1 E):=funext λO=>PI.comms _ _ (λp q hp hq=>by
  unfold fq at hp;obtain⟨j,hj,hp⟩:=lF.1 hp;cases qV:aA E j<;>simp only[qV,zyy,zyx] at hp
  case true=>cases hp
  have hc:(jd (X.getD j [])).comm (jd (X.getD i []))=true:=by
   cases jG:(jd (X.getD j [])).comm (jd (X.getD i [])) with
   |true=>rfl
   |false=>
    have q6:(ru X N).getD i []=(List.range i).filter λj=> !(jd (X.getD j [])).comm (jd (X.getD i [])):=by
     unfold ru;rw[aK,cL,rX hi];rfl
    rw[q6] at dw;have:=bR.1 dw j (eO.2 ⟨cw.2 (lt1 j hj),by rw[jG];rfl⟩);rw[qV] at this;cases this
  exact Foot.comm_each hc p q hp hq) O
 rw[<-qq,qg,aq7];have:=qg (Z:=Z) (a:=X.getD i []) (b:=fq X l1 E) (O:=O);rw[this,Option.bind_assoc]
 congr 1
 funext ρ1;rw[qg]
def fW (C:Ctx)(ops:Array Oper):List Nat->St->Option (List (List PI))
 |[],_=>some []
 |i::l,S=>
  match ops[i]? with
  |some o=>(qF C S ops o).bind λr=>(fW C ops l r.1).map λq=>r.2::q
  |none=>none
def ab1 (ops:Array Oper):Bool:=(List.range ops.size).all λi=>match ops[i]? with
 |some o=>(match o.guard with|some (j,_)=>Nat.blt j i|none=>true)
 |none=>true
def B9 (ops:Array Oper):Bool:=ops.toList.all λo=>match o.guard with
 |some (j,_)=>o.after.toList.any λe=>Region.binds .any e&&Nat.beq e.on j
 |none=>true
def bM:Operand->List Nat
 |.tmp t=>[t]
 |_=>[]
def DV:Option Operand->List Nat
 |some x=>bM x
 |none=>[]
def mI:Op->List Nat
 |.move x=>bM x
 |.assign x=>bM x
 |.unOp _ _ x=>bM x
 |.convert _ _ x=>bM x
 |.load _ x=>bM x
 |.fieldAddr _ x _=>bM x
 |.field _ x _=>bM x
 |.extract x _=>bM x
 |.nilCheck x=>bM x
 |.pick c x y=>bM c++bM x++bM y
 |.binOp _ _ x y _=>bM x++bM y
 |.indexAddr _ x i=>bM x++bM i
 |.index _ x i=>bM x++bM i
 |.lookup _ m k _=>bM m++bM k
 |.slice _ x lo hi _=>bM x++DV lo++DV hi
 |.build _ ps=>ps.toList.flatMap λp=>bM p.2
 |.call c=>(match c.callee with|.value x=>bM x|_=>[])++c.args.toList.flatMap bM
 |.store _ x v=>bM x++bM v
 |.mapUpdate _ m k v=>bM m++bM k++bM v
 |_=>[]
def Lq (ops:Array Oper)(o:Oper):List Nat:=
 match o.guard with
 |some (j,_)=>(match(ops[j]?).bind (·.dst) with|some t=>[t]|none=>[])
 |none=>[]
def St.withR (S:St)(f:Nat->Sh):St:=⟨f,S.o,S.ver⟩
section
variable {C:Ctx} {S:St} {f:Nat->Sh} {gs:List (Nat×Bool)} {dst:Nat}
def DO {t:Nat}(h:f t=S.r t):ls (S.withR f) gs t=ls S gs t:=by
 have e:(S.withR f).r t=S.r t:=h;unfold ls;rw[e]
def vj {x:Operand}(h:∀t,t∈bM x->f t=S.r t):fN (S.withR f) gs x=fN S gs x:=by
 cases x<;>first|rfl|exact DO (h _ (qu.2 rfl))
def QH:∀(l:List Sh) (j:PE) (i:Nat),sf (S.withR f) j l i=sf S j l i
 |[],_,_=>rfl
 |s::l,j,i=>by simp only[sf];rw[QH l j (i+1)];rfl
def PB:∀(l:List AgC),yd (S.withR f) l=yd S l
 |[]=>rfl
 |.dat _::l=>PB l
 |.obj j ver::l=>by simp only[yd];rw[PB l];rfl
def aar:∀(l:List Sh),vP (S.withR f) l=vP S l
 |[]=>rfl
 |s::l=>by simp only[vP];rw[aar l];rfl
def eV {x:Operand}(h:∀t,t∈bM x->f t=S.r t):use C (S.withR f) gs x=use C S gs x:=by
 cases x<;>first|rfl|(unfold use;simp only;rw[DO (h _ (qu.2 rfl))];simp only[QH];rfl)
def akY {x:Operand}(h:∀t,t∈bM x->f t=S.r t):view C (S.withR f) gs x=view C S gs x:=by
 unfold view;rw[eV h];cases x<;>first|rfl|(simp only;rw[DO (h _ (qu.2 rfl))];rfl)
def ZI:∀{xs:List Operand},(∀t,t∈xs.flatMap bM->f t=S.r t)->lu C (S.withR f) gs xs=lu C S gs xs
 |[],_=>rfl
 |x::xs,h=>by
  simp only[lu]
  rw[eV λt ht=>h t (lF.2 ⟨x,dZ ..,ht⟩),ZI λt ht=>by
   obtain⟨y,hy,uE⟩:=lF.1 ht;exact h t (lF.2 ⟨y,dV _ hy,uE⟩)]
def aCz {x:Option Operand}(h:∀t,t∈DV x->f t=S.r t):I1 C (S.withR f) gs x=I1 C S gs x:=by
 cases x with
 |none=>rfl
 |some x=>exact eV h
def aCx {e:PE}{x:Option Operand}(h:∀t,t∈DV x->f t=S.r t):I0 C (S.withR f) gs e x=I0 C S gs e x:=by
 cases x with
 |none=>rfl
 |some x=>exact eV h
def sS:∀{xs:List Operand},(∀t,t∈xs.flatMap bM->f t=S.r t)->cf (S.withR f) gs xs=cf S gs xs
 |[],_=>rfl
 |x::xs,h=>by
  simp only[cf]
  rw[vj λt ht=>h t (lF.2 ⟨x,dZ ..,ht⟩),sS λt ht=>by
   obtain⟨y,hy,uE⟩:=lF.1 ht;exact h t (lF.2 ⟨y,dV _ hy,uE⟩)]
  simp only[PB];rfl
def j9 {P:Nat->Prop}{a b:List Nat}(h:∀t,t∈a++b->P t):(∀t,t∈a->P t)/\∀t,t∈b->P t:=
 ⟨λt ht=>h t (ja _ ht),λt ht=>h t (jz _ ht)⟩
def agX {x:Operand}(h:∀t,t∈bM x->f t=S.r t):rz C (S.withR f) gs dst x=rz C S gs dst x:=by
 unfold rz;rw[eV h];cases x<;>first|rfl|(simp only;rw[DO (h _ (qu.2 rfl))])
def awC {c x y:Operand}(h:∀t,t∈bM c++bM x++bM y->f t=S.r t):C7 C (S.withR f) gs dst c x y=C7 C S gs dst c x y:=by
 obtain⟨h1,h3⟩:=j9 h;obtain⟨h1,h2⟩:=j9 h1;unfold C7;cases c<;>first|rfl|skip
 simp only;rw[DO (h1 _ (qu.2 rfl)),eV h2,eV h3]
def awd {op:BinOp}{T:TypeId}{x y:Operand}(h:∀t,t∈bM x++bM y->f t=S.r t):CW C (S.withR f) gs dst op T x y=CW C S gs dst op T x y:=by
 obtain⟨h1,h2⟩:=j9 h;unfold CW;rw[eV h1,eV h2]
def awH {op:UnOp}{x:Operand}(h:∀t,t∈bM x->f t=S.r t):C9 C (S.withR f) gs dst op x=C9 C S gs dst op x:=by unfold C9;rw[eV h]
def awh {s d:TypeId}{x:Operand}(h:∀t,t∈bM x->f t=S.r t):CY C (S.withR f) gs dst s d x=CY C S gs dst s d x:=by unfold CY;rw[eV h]
def awu {T:TypeId}{x:Operand}(h:∀t,t∈bM x->f t=S.r t):C4 C (S.withR f) gs dst T x=C4 C S gs dst T x:=by unfold C4;rw[akY h]
def agV {b:Bool}{x y:Operand}(h:∀t,t∈bM x++bM y->f t=S.r t):zK C (S.withR f) gs dst b x y=zK C S gs dst b x y:=by
 obtain⟨h1,h2⟩:=j9 h;unfold zK;rw[eV h1,eV h2]
def aww {T:TypeId}{x:Operand}(h:∀t,t∈bM x->f t=S.r t):uO C (S.withR f) gs dst T x=uO C S gs dst T x:=by
 unfold uO;rw[vj h,eV h];simp only[QH,aar];rfl
def awl {T:TypeId}{x:Operand}{i:Nat}(h:∀t,t∈bM x->f t=S.r t):C1 C (S.withR f) gs dst T x i=C1 C S gs dst T x i:=by
 unfold C1;rw[vj h,eV h];rfl
def awn {T:TypeId}{x:Operand}{i:Nat}(h:∀t,t∈bM x->f t=S.r t):C0 C (S.withR f) gs dst T x i=C0 C S gs dst T x i:=by unfold C0;rw[eV h]
def awq {T:TypeId}{x i:Operand}(h:∀t,t∈bM x++bM i->f t=S.r t):C3 C (S.withR f) gs dst T x i=C3 C S gs dst T x i:=by
 obtain⟨h1,h2⟩:=j9 h;unfold C3;rw[eV h1,eV h2,vj h1];rfl
def aws {T:TypeId}{x i:Operand}(h:∀t,t∈bM x++bM i->f t=S.r t):C2 C (S.withR f) gs dst T x i=C2 C S gs dst T x i:=by
 obtain⟨h1,h2⟩:=j9 h;unfold C2;rw[eV h1,eV h2]
def awj {x:Operand}{i:Nat}(h:∀t,t∈bM x->f t=S.r t):CZ C (S.withR f) gs dst x i=CZ C S gs dst x i:=by unfold CZ;rw[eV h]
def awy {T:TypeId}{m k:Operand}{ok:Bool}(h:∀t,t∈bM m++bM k->f t=S.r t):C5 C (S.withR f) gs dst T m k ok=C5 C S gs dst T m k ok:=by
 obtain⟨h1,h2⟩:=j9 h;unfold C5;rw[akY h1,eV h2]
def awF {T:TypeId}{x:Operand}{lo hi mx:Option Operand}(h:∀t,t∈bM x++DV lo++DV hi->f t=S.r t):C8 C (S.withR f) gs dst T x lo hi mx=C8 C S gs dst T x lo hi mx:=by
 obtain⟨h1,h3⟩:=j9 h;obtain⟨h1,h2⟩:=j9 h1;unfold C8;rw[eV h1];simp only[aCz h2,aCx h3]
def aaN {zs:List Value}{parts:List (Nat×Operand)}(h:∀t,t∈(parts.flatMap λp=>bM p.2)->f t=S.r t):∀(fs:List Field) (i off:Nat),lI C (S.withR f) gs zs parts fs i off=lI C S gs zs parts fs i off
 |[],_,_=>rfl
 |g::fs,i,off=>by
  simp only[lI,aaN h fs];cases hp:parts.find? (λp=>Nat.beq p.1 i) with
  |none=>rfl
  |some p=>
   have hu:∀ft,uP C (S.withR f) gs ft p.2=uP C S gs ft p.2:=λft=>by
        unfold uP;rw[eV λt ht=>h t (lF.2 ⟨p,vI hp,ht⟩),vj λt ht=>h t (lF.2 ⟨p,vI hp,ht⟩)];rfl
   simp only[hu]
def awf {T:TypeId}{ps:List (Nat×Operand)}(h:∀t,t∈(ps.flatMap λp=>bM p.2)->f t=S.r t):CX C (S.withR f) gs dst T ps=CX C S gs dst T ps:=by
 unfold CX;simp only[aaN h];split
 .rfl
 .split
  .split
   .rename_i x y;rw[eV (x:=x) λt ht=>h t (by simp[ht]),eV (x:=y) λt ht=>h t (by simp[ht])]
   .rfl
  .rfl
 .rfl
def awA {x:Operand}(h:∀t,t∈bM x->f t=S.r t):C6 C (S.withR f) gs dst x=C6 C S gs dst x:=by
 unfold C6;rw[eV h];cases x<;>first|rfl|(simp only;rw[DO (h _ (qu.2 rfl))];rfl)
def nU:Op->Bool
 |.move _|.pick ..|.binOp ..|.unOp ..|.convert ..|.load ..|.fieldAddr ..|.field ..|.indexAddr ..|.index ..|.extract ..|.lookup ..|.slice ..|.build ..|.nilCheck _|.makeInterface ..|.call _=>true
 |_=>false
def agZ {op:Op}(hq:nU op=true)(h:∀t,t∈mI op->f t=S.r t):pS C (S.withR f) gs dst op=pS C S gs dst op:=by
 cases op<;>simp only[nU] at hq<;>simp only[mI] at h<;>simp only[pS]
 case move=>exact agX h
 case pick=>exact awC h
 case binOp=>exact awd h
 case unOp=>exact awH h
 case convert=>exact awh h
 case load=>exact aww h
 case fieldAddr=>exact awl h
 case field=>exact awn h
 case indexAddr=>exact awq h
 case index=>exact aws h
 case extract=>exact awj h
 case lookup=>exact awy h
 case slice=>exact awF h
 case build=>exact awf h
 case nilCheck=>exact awA h
 case call c=>
  obtain⟨_,h2⟩:=j9 h;split
  .rename_i x T _ ha _;exact awu λt ht=>h2 t (by rw[ha];simp[ht])
  .rename_i x y _ ha;exact agV λt ht=>h2 t (by rw[ha];simpa using ht)
  .rename_i x y _ ha;exact agV λt ht=>h2 t (by rw[ha];simpa using ht)
  .rfl
 all_goals (cases hq;done)
def aw3 {op:Op}(h:∀t,t∈mI op->f t=S.r t)(hq:nU op=true):uS (S.withR f) gs op=uS S gs op:=by
 cases op<;>simp only[nU] at hq<;>simp only[mI] at h<;>simp only[uS]
 case build T ps=>exact sS λt ht=>h t (by
  obtain⟨x,hx,S5⟩:=lF.1 ht;obtain⟨p,hp,rfl⟩:=dW.1 hx;exact lF.2 ⟨p,hp,S5⟩)
 case pick c x y=>
  obtain⟨h1,h3⟩:=j9 h;obtain⟨h1,h2⟩:=j9 h1;refine sS λt ht=>?_;simp only[xZ,aaa,km,dH] at ht;exact ht.elim (h2 t) (h3 t)
 case slice T x lo hi mx=>
  obtain⟨h1,h3⟩:=j9 h;obtain⟨h1,h2⟩:=j9 h1;exact sS λt ht=>h1 t (by simpa using ht)
 all_goals first|rfl|(cases hq;done)
def aw4 {op:Op}(h:∀t,t∈mI op->f t=S.r t)(hq:nU op=true):pre C (S.withR f) gs op=pre C S gs op:=by
 have wH:=hq;cases op<;>simp only[nU] at hq<;>simp only[pre,aw3 h wH]
 case load T x=>simp only[mI] at h;rw[vj h];rfl
 all_goals first|(cases hq;done)|skip
def aqo {ops:Array Oper}{o:Oper}(h:∀t,t∈Lq ops o->f t=S.r t):qT (S.withR f) ops o=qT S ops o:=by
 unfold qT;cases hg:o.guard with
 |none=>rfl
 |some jw=>
  obtain⟨j,want⟩:=jw;simp only;cases ht:(ops[j]?).bind (·.dst) with
  |none=>rfl
  |some t=>
   simp only;have:(S.withR f).r t=S.r t:=h t (by unfold Lq;rw[hg];simp[ht]);rw[this]
end
def xl (C:Ctx)(c:Callee):Bool:=
 match c with
 |.value (.func f)=>(match C.sig f with|some s=>s.res.pure|none=>false)
 |_=>false
def Fx (C:Ctx)(S:St)(gs:List (Nat×Bool))(dst:Nat)(op:Op):Option (Sh×List PI):=
 match op with
 |.assign x=>
  match gs with
  |[]=>bif C.fr.any (Nat.beq dst)&&(cf S [] [x]).isEmpty then(match rz C S [] dst x with|some r=>bif ox r.1 then some r else none|none=>none) else none
  |_=>none
 |.call c=>
  match pS C S gs dst (.call c) with
  |some r=>bif sR r.1&&j0 gs (some dst) r.2 then some (jZ gs r.1,r.2) else none
  |none=>
   bif (cf S gs c.args.toList).isEmpty||xl C c.callee then
    match c.callee with
    |.value (.func f)=>(match qL C S gs dst f c.args.toList with|some r=>bif j0 gs (some dst) r.2.2 then some (jZ gs r.2.1,r.2.2) else none|none=>none)
    |.value x=>(match ph C S gs dst x c.args.toList with|some r=>bif j0 gs (some dst) r.2.2 then some (jZ gs r.2.1,r.2.2) else none|none=>none)
    |_=>none
   else none
 |op=>bif nU op&&(pre C S gs op).isEmpty then(match pS C S gs dst op with|some r=>bif sR r.1&&j0 gs (some dst) r.2 then some (jZ gs r.1,r.2) else none|none=>none) else none
def Fy (C:Ctx)(S:St)(gs:List (Nat×Bool))(op:Op):Option (List PI):=
 match op,gs with
 |.store T x v,[]=>
  match fN S [] x with
  |.eptr ..=>bif (cf S [] [v]).isEmpty then(vW C S T x v).map (·.2) else none
  |_=>none
 |.mapUpdate T m k v,[]=>bif (cf S [] [k,v]).isEmpty then(ua C S T m k v).map (·.2) else none
 |.panic _,[]=>some [.chk (.nt (.con (.bool true)))]
 |_,_=>none
def v8 (C:Ctx)(S:St)(ops:Array Oper)(o:Oper):Option (Sh×List PI):=
 match C.yl with
 |some _=>none
 |none=>(qT S ops o).bind λgs=>
  match o.dst with
  |some dst=>Fx C S gs dst o.op
  |none=>(Fy C S gs o.op).map λl=>(.none,l)
def oN (S:St)(o:Oper)(s:Sh):St:=match o.dst with|some d=>S.setR d s|none=>S
section
variable {C:Ctx} {S:St} {f:Nat->Sh} {gs:List (Nat×Bool)} {dst:Nat}
def aqd (j:Nat):(S.withR f).fz j=(S.fz j).withR f:=by
 unfold St.fz St.withR;simp only;split<;>rfl
def abU:∀(js:List Nat) {S:St},(S.withR f).fzs js=(S.fzs js).withR f
 |[],_=>rfl
 |j::js,S=>by
  show((S.withR f).fz j).fzs js=((S.fz j).fzs js).withR f;rw[aqd,abU js]
def an8 {g:Nat}{xs:List Operand}(h:∀t,t∈xs.flatMap bM->f t=S.r t):
 (match qL C (S.withR f) gs dst g xs with|some r=>bif j0 gs (some dst) r.2.2 then some (jZ gs r.2.1,r.2.2) else none|none=>none)=(match qL C S gs dst g xs with|some r=>bif j0 gs (some dst) r.2.2 then some (jZ gs r.2.1,r.2.2) else none|none=>none):=by
 have ho:=sS (gs:=gs) h;unfold qL;generalize (C.sig g).bind (E6 C.fr dst)=q;cases q with
 |none=>rfl
 |some s=>
  simp only[kM];cases s.mode<;>first|rfl|skip
  simp only[ho,abU];rw[ZI (S:=S.fzs (cf S gs xs)) (f:=f) (λt ht=>by rw[(pk _ S).2];exact h t ht)];cases lu C (S.fzs (cf S gs xs)) gs xs with
  |none=>rfl
  |some u=>
   simp only[kM];cases Ty.subs u.1 s.args<;>rfl
def anZ {x:Operand}{xs:List Operand}(hx:∀t,t∈bM x->f t=S.r t)(h:∀t,t∈xs.flatMap bM->f t=S.r t)(he:(cf S gs xs).isEmpty=true):
 (match ph C (S.withR f) gs dst x xs with|some r=>bif j0 gs (some dst) r.2.2 then some (jZ gs r.2.1,r.2.2) else none|none=>none)=(match ph C S gs dst x xs with|some r=>bif j0 gs (some dst) r.2.2 then some (jZ gs r.2.1,r.2.2) else none|none=>none):=by
 have ho:=sS (gs:=gs) h;have qZ:=vG.1 he;unfold ph;rw[eV hx];cases use C S gs x with
 |none=>rfl
 |some y=>
  obtain⟨ty,e⟩:=y;cases ty with
  |fn aa r=>
   simp only;cases kF aa r with
   |some _=>rfl
   |none=>
    simp only[ho,qZ,St.fzs,aab,ZI h];cases lu C S gs xs with
    |none=>rfl
    |some u=>
     simp only[kM];cases Ty.subs u.1 aa<;>rfl
  |_=>rfl
def aoZ {op:Op}(h:∀t,t∈mI op->f t=S.r t):Fx C (S.withR f) gs dst op=Fx C S gs dst op:=by
 have other:∀op,(∀t,t∈mI op->f t=S.r t)->(bif nU op&&(pre C (S.withR f) gs op).isEmpty then(match pS C (S.withR f) gs dst op with|some r=>bif sR r.1&&j0 gs (some dst) r.2 then some (jZ gs r.1,r.2) else none|none=>none) else none)=
  (bif nU op&&(pre C S gs op).isEmpty then(match pS C S gs dst op with|some r=>bif sR r.1&&j0 gs (some dst) r.2 then some (jZ gs r.1,r.2) else none|none=>none) else none):=by
  intro op h;cases hq:nU op with
  |false=>rfl
  |true=>rw[aw4 h hq,agZ hq h]
 unfold Fx;split
 .rename_i x;simp only[mI] at h;rw[agX h,sS (xs:=[x]) λt ht=>h t (by simpa using ht)]
 .rename_i c;have h':=h;simp only[mI] at h';obtain⟨h1,h2⟩:=j9 h';rw[agZ (op:=.call c) rfl h,sS h2];split
  .rfl
  .cases he:(cf S gs c.args.toList).isEmpty||xl C c.callee with
   |false=>rfl
   |true=>
    simp only[zyy];split
    .exact an8 h2
    .rename_i x hx hc;have hp:xl C c.callee=false:=by
         rw[hc];unfold xl;cases x<;>first|rfl|exact absurd rfl (hx _)
     exact anZ (λt ht=>h1 t (by rw[hc];exact ht)) h2 (by rw[hp,vA] at he;exact he)
    .rfl
 .exact other _ h
def ao0 {op:Op}(h:∀t,t∈mI op->f t=S.r t):Fy C (S.withR f) gs op=Fy C S gs op:=by
 unfold Fy;split
 .rename_i T x v;simp only[mI] at h;obtain⟨h1,h2⟩:=j9 h;rw[vj h1,sS (xs:=[v]) λt ht=>h2 t (by simpa using ht)];split
  .rename_i j ver size off gG;cases(cf S [] [v]).isEmpty with
   |false=>rfl
   |true=>
    simp only[zyy];unfold vW;rw[vj h1,eV h2,gG];simp only;have eo:(S.withR f).o=S.o:=rfl;have ev:(S.withR f).ver=S.ver:=rfl;rw[eo,ev];cases C.P.info? T with
    |none=>rfl
    |some inf=>
     simp only;cases Nat.beq ver (S.ver j) with
     |false=>rfl
     |true=>
      simp only[zyy];cases S.o j with
      |row T' e0=>
       cases use C S [] v with
       |none=>cases e0<;>rfl
       |some y=>
        obtain⟨t,e⟩:=y;cases e0<;>simp only<;>(generalize (_&&_:Bool)=b;cases b<;>rfl)
      |_=>rfl
  .rfl
 .rename_i T m k v;simp only[mI] at h;obtain⟨h1,h3⟩:=j9 h;obtain⟨h1,h2⟩:=j9 h1
  rw[sS (xs:=[k,v]) λt ht=>by
   simp only[xZ,aaa,km,dH] at ht;exact ht.elim (h2 t) (h3 t)]
  cases(cf S [] [k,v]).isEmpty with
  |false=>rfl
  |true=>
   simp only[zyy];unfold ua;rw[vj h1,eV h2,eV h3];have eo:(S.withR f).o=S.o:=rfl;have ev:(S.withR f).ver=S.ver:=rfl;rw[eo,ev];cases C.P.underlying T with
   |none=>rfl
   |some desc=>
    cases desc with
    |map K E=>
     cases fN S [] m with
     |obj j ver=>
      simp only;cases Nat.beq ver (S.ver j) with
      |false=>rfl
      |true=>
       simp only[zyy];cases S.o j with
       |mp kt et=>
        cases use C S [] k with
        |none=>rfl
        |some y=>
         cases use C S [] v with
         |none=>rfl
         |some z=>
          obtain⟨tk,ek⟩:=y;obtain⟨tv,ev⟩:=z;simp only;generalize (_&&_:Bool)=b;cases b<;>rfl
       |_=>rfl
     |_=>rfl
    |_=>rfl
 .rfl
 .rfl
def ao2 {ops:Array Oper}{o:Oper}(h:∀t,t∈mI o.op++Lq ops o->f t=S.r t):v8 C (S.withR f) ops o=v8 C S ops o:=by
 obtain⟨h1,h2⟩:=j9 h;unfold v8;rw[aqo h2];split
 .rfl
 .cases qT S ops o with
  |none=>rfl
  |some gs=>
   simp only[kM];split
   .exact aoZ h1
   .rw[ao0 h1]
def ayr {S:St}{t:Nat}{s:Sh}(h:S.r t=s)(hs:ox s=true):Am S t t=some (S,[]):=by
 unfold Am;rw[h];cases s<;>first|rfl|cases hs
def ao1 {ops:Array Oper}{o:Oper}{q:Sh×List PI}(h:v8 C S ops o=some q):qF C S ops o=some (oN S o q.1,q.2):=by
 unfold v8 at h;split at h
 case h_1=>cases h
 rename_i la;simp only[ay] at h;obtain⟨gs,eG,h⟩:=h;have hY:BU C S ops o=none:=by
  unfold BU;rw[la];split<;>first|rfl|(rename_i hx;cases hx;done)|(rename_i hx _;cases hx;done)
 have fin:∀{S':St},pre C S gs o.op++rB C S gs o=[]->core C S gs o=some (S',q.2)->kq C (post C S' o) S'=some (S',[])->j0 gs o.dst q.2=true->qF C S ops o=some (S',q.2):=by
  intro S' h1 h2 h3 h4;unfold qF BT E4;rw[hY,eG];simp only[kM,h1,kq,h2,h3,h4,zyy,vJ,km]
 cases hd:o.dst with
 |some dst=>
  simp only[hd] at h;have df:oN S o q.1=S.setR dst q.1:=by unfold oN;rw[hd]
  rw[df];unfold Fx at h;split at h
  .rename_i x bQ;split at h
   case h_2=>cases h
   cases hb:(C.fr.any (Nat.beq dst)&&(cf S [] [x]).isEmpty)<;>simp only[hb,zyy,zyx] at h
   .cases h
   simp only[au] at hb;split at h
   case h_2=>cases h
   rename_i r hr;cases acw:ox r.1<;>simp only[acw,zyy,zyx] at h
   .cases h
   cases h;have he:=vG.1 hb.2;refine fin ?_ ?_ ?_ rfl
   .rw[bQ];unfold rB;rw[bQ,hd];simp only[hb.1,he,zyy,pre,uS,tO,km]
   .unfold core;rw[hd];simp only[bQ,pS,hb.1,zyy,hr]
   .unfold post;rw[bQ,hd];simp only[kq,Gh.run];rw[ayr (s:=q.1) (by simp[St.setR,aP]) acw];rfl
  .rename_i c bQ;have Su:pre C S gs o.op++rB C S gs o=[]:=by
        rw[bQ];unfold rB;rw[bQ];simp[pre,uS]
   have kY:∀S':St,kq C (post C S' o) S'=some (S',[]):=λS'=>by
        unfold post;rw[bQ];rfl
   split at h
   .rename_i r hr;cases hb:(sR r.1&&j0 gs (some dst) r.2)<;>simp only[hb,zyy,zyx] at h
    .cases h
    cases h;simp only[au] at hb;refine fin Su ?_ (kY _) (by rw[hd];exact hb.2);unfold core;rw[hd];simp only[bQ,hr,hb.1,zyy]
   .rename_i hr;cases he:(cf S gs c.args.toList).isEmpty||xl C c.callee<;>simp only[he,zyy,zyx] at h
    .cases h
    have sfz:∀b:Bool,(cf S gs c.args.toList).isEmpty=true\/b=true->(bif b then S else S.fzs (cf S gs c.args.toList))=S:=λb hb=>by
     rcases hb with hb|rfl
     .rw[vG.1 hb];cases b<;>rfl
     .rfl
    split at h
    .rename_i f hc;split at h
     case h_2=>cases h
     rename_i r eI;cases hb:j0 gs (some dst) r.2.2<;>simp only[hb,zyy,zyx] at h
     .cases h
     cases h;refine fin Su ?_ (kY _) (by rw[hd];exact hb);have hS:r.1=S:=by
      simp only[qL,ay] at eI;obtain⟨s,⟨s0,hs,ri⟩,eI⟩:=eI;split at eI
      case h_2=>cases eI
      simp only[ay] at eI;obtain⟨u,hu,eI⟩:=eI;cases cn:Ty.subs u.1 s.args<;>simp only[cn,zyy,zyx] at eI
      .cases eI
      cases eI;refine sfz _ ?_;have Gp:s.res=s0.res:=by
       unfold E6 at ri;split at ri
       .revert ri
        generalize (_&&_:Bool)=b;intro ri;cases b<;>simp only[zyy,zyx,aX] at ri<;>rw[<-ri]
       .simp only[aX] at ri;rw[<-ri]
      rw[hc] at he;simp only[xl,hs,fZ] at he;rw[Gp];exact he
     unfold core;rw[hd];simp only[bQ,hr,hc,eI,hS]
    .rename_i x Ma hc;split at h
     case h_2=>cases h
     rename_i r eI;cases hb:j0 gs (some dst) r.2.2<;>simp only[hb,zyy,zyx] at h
     .cases h
     cases h;refine fin Su ?_ (kY _) (by rw[hd];exact hb);have hS:r.1=S:=by
      unfold ph at eI;split at eI
      case h_2=>cases eI
      rename_i aa r0 e SO;split at eI
      case h_1=>cases eI
      simp only[ay] at eI;obtain⟨u,hu,eI⟩:=eI;cases cn:Ty.subs u.1 aa<;>simp only[cn,zyy,zyx] at eI
      .cases eI
      cases eI;refine sfz _ (.inl ?_);have hp:xl C c.callee=false:=by
       rw[hc];unfold xl;cases x<;>first|rfl|exact absurd rfl (Ma _)
      rw[hp,vA] at he;exact he
     unfold core;rw[hd];simp only[bQ,hr,hc];cases x with
     |func f=>exact absurd rfl (Ma f)
     |_=>simp only[eI,hS]
    .cases h
  .rename_i hna dw;cases hb:(nU o.op&&(pre C S gs o.op).isEmpty)<;>simp only[hb,zyy,zyx] at h
   .cases h
   simp only[au] at hb;split at h
   case h_2=>cases h
   rename_i r hr;cases cB:(sR r.1&&j0 gs (some dst) r.2)<;>simp only[cB,zyy,zyx] at h
   .cases h
   cases h;simp only[au] at cB;have dy:rB C S gs o=[]:=by
        unfold rB;split
        .rename_i x t e _;exact absurd e (hna x)
        .rfl
   have kY:∀S':St,kq C (post C S' o) S'=some (S',[]):=λS'=>by
        have:post C S' o=[]:=by
         unfold post;split
         .rename_i x t e _;exact absurd e (hna x)
         .rename_i T t e _;rw[e] at hb;simp[nU] at hb
         .rename_i T x v e;rw[e] at hb;simp[nU] at hb
         .rfl
        rw[this];rfl
   refine fin (by rw[dy,vG.1 hb.2];rfl) ?_ (kY _) (by rw[hd];exact cB.2);unfold core;rw[hd];simp only[hr,cB.1,zyy]
 |none=>
  simp only[hd,aD] at h;obtain⟨l,h,rfl⟩:=h;have df:oN S o (.none:Sh)=S:=by unfold oN;rw[hd]
  show qF C S ops o=some (oN S o .none,l);rw[df];have dy:rB C S gs o=[]:=by unfold rB;rw[hd];split<;>first|rfl|(rename_i hx;cases hx)
  unfold Fy at h;split at h
  .rename_i T x v bQ;split at h
   case h_2=>cases h
   rename_i j ver size off gG;cases he:(cf S [] [v]).isEmpty<;>simp only[he,zyy,zyx] at h
   .cases h
   simp only[aD] at h;obtain⟨r,hr,rfl⟩:=h;have hS:r.1=S:=by
        unfold vW at hr;split at hr
        case h_2=>cases hr
        rw[gG] at hr;simp only at hr;cases hv:Nat.beq ver (S.ver j)<;>simp only[hv,zyy,zyx] at hr
        .cases hr
        split at hr
        .revert hr;generalize (_&&_:Bool)=b;intro hr;cases b<;>simp only[zyy,zyx] at hr<;>cases hr;rfl
        .revert hr;generalize (_&&_:Bool)=b;intro hr;cases b<;>simp only[zyy,zyx] at hr<;>cases hr;rfl
        .cases hr
   refine fin ?_ ?_ ?_ rfl
   .rw[dy,bQ];simp only[pre,uS,gG,vG.1 he,tO,km]
   .unfold core;rw[hd];simp only[bQ,hr];rw[<-hS]
   .unfold post;rw[bQ];simp only[gG];rfl
  .rename_i T m k v bQ;cases he:(cf S [] [k,v]).isEmpty<;>simp only[he,zyy,zyx] at h
   .cases h
   simp only[aD] at h;obtain⟨r,hr,rfl⟩:=h;have hS:r.1=S:=by
        unfold ua at hr;split at hr
        .rename_i K _ j ver _ _;cases hv:Nat.beq ver (S.ver j)<;>simp only[hv,zyy,zyx] at hr
         .cases hr
         split at hr
         .revert hr;generalize (_&&_:Bool)=b;intro hr;cases b<;>simp only[zyy,zyx] at hr<;>cases hr;rfl
         .cases hr
        .cases hr
   refine fin ?_ ?_ ?_ rfl
   .rw[dy,bQ];simp only[pre,uS,vG.1 he,tO,km]
   .unfold core;rw[hd];simp only[bQ,hr];rw[<-hS]
   .unfold post;rw[bQ];rfl
  .rename_i x bQ;cases h;refine fin ?_ ?_ ?_ rfl
   .rw[dy,bQ];rfl
   .unfold core;rw[hd];simp only[bQ]
   .unfold post;rw[bQ];rfl
  .cases h
end
def gq (ops:Array Oper)(shs:List Sh)(l:List Nat)(f:Nat->Sh):Nat->Sh:=
 l.foldl (λf i=>match(ops[i]?).bind (·.dst) with|some d=>cr f d (shs.getD i .none)|none=>f) f
def B4 (C:Ctx)(S:St)(ops:Array Oper):Nat->Option (List (Sh×List PI))
 |0=>some []
 |k+1=>(B4 C S ops k).bind λq=>match ops[k]? with
  |some o=>(v8 C (S.withR (gq ops (q.map (·.1)) (List.range k) S.r)) ops o).map λr=>q++[r]
  |none=>none
def eg (ops:Array Oper):Nat->List Nat
 |0=>[]
 |k+1=>eg ops k++[match ops[k]? with
  |some o=>o.after.toList.foldr (λe m=>bif Region.binds .any e then Nat.lor (Nat.lor (eC e.on) ((eg ops k).getD e.on 0)) m else m) 0
  |none=>0]
def aiC (ops:Array Oper)(o:Oper):List Nat:=mI o.op++Lq ops o
def abO (ops:Array Oper)(nc:List (List Nat))(clo:List Nat)(i:Nat):Bool:=
 match ops[i]? with
 |some o=>(nc.getD i []).all (aA (clo.getD i 0))&&(o.after.toList.all λe=> !Region.binds .any e||Nat.blt e.on i)&&
   (aiC ops o).all λt=>(List.range ops.size).all λj=>match(ops[j]?).bind (·.dst) with
     |some d=> !Nat.beq d t||((Nat.blt j i&&aA (clo.getD i 0) j)||aA (clo.getD j 0) i)
     |none=>true
 |none=>false
def Ln (ops:Array Oper)(i:Nat):Bool:=match ops[i]? with|some o=>o.after.toList.all λe=> !Region.binds .any e||Nat.blt e.on i|none=>false
def Fz (ops:Array Oper)(nc:List (List Nat))(clo:List Nat)(m:Nat):Bool:=(List.range m).all (abO ops nc clo)&&(List.range ops.size).all (Ln ops)
def qk (clo:List Nat):Nat->Nat
 |0=>0
 |k+1=>bif (List.range k).all (aA (clo.getD k 0)) then qk clo k else k+1
def ajj (clo:List Nat):∀k,qk clo k<=k
 |0=>bj _
 |k+1=>by
  unfold qk;cases(List.range k).all (aA (clo.getD k 0)) with
  |true=>exact Nat.le_succ_of_le (ajj clo k)
  |false=>exact bj _
def aji (clo:List Nat):∀k i,qk clo k<=i->i<k->∀j,j<i->aA (clo.getD i 0) j=true
 |0,i,_,h=>by omega
 |k+1,i,h1,h2=>by
  unfold qk at h1;cases hb:(List.range k).all (aA (clo.getD k 0)) with
  |true=>
   rw[hb] at h1;by_cases e:i=k
   .subst e;exact λj hj=>bR.1 hb j (cw.2 hj)
   .exact aji clo k i h1 (by omega)
  |false=>rw[hb] at h1;simp only[zyx] at h1;omega
def abP (C:Ctx)(ops:Array Oper)(S:St):Option (St×List PI):=
 (B4 C S ops (qk (eg ops ops.size) ops.size)).bind λq=>
    bif Fz ops (ru (q.map (·.2)) (qk (eg ops ops.size) ops.size)) (eg ops ops.size) (qk (eg ops ops.size) ops.size) then
     (pg C ops (List.range' (qk (eg ops ops.size) ops.size) (ops.size-qk (eg ops ops.size) ops.size)) (S.withR (gq ops (q.map (·.1)) (List.range (qk (eg ops ops.size) ops.size)) S.r))).map λr=>(r.1,(q.map (·.2)).flatten++r.2)
    else none
def Oy (ops:Array Oper)(shs:List Sh)(i:Nat)(l:List Nat)(f:Nat->Sh):gq ops shs (i::l) f=gq ops shs l (match(ops[i]?).bind (·.dst) with|some d=>cr f d (shs.getD i .none)|none=>f):=rfl
def IP {ops:Array Oper}{shs:List Sh}{t:Nat}:∀{l:List Nat} {f:Nat->Sh},(∀i,i∈l->(ops[i]?).bind (·.dst)≠some t)->gq ops shs l f t=f t
 |[],_,_=>rfl
 |i::l,f,h=>by
  rw[Oy,IP λj hj=>h j (dV _ hj)];have:=h i (dZ ..);cases hd:(ops[i]?).bind (·.dst) with
  |none=>rfl
  |some d=>exact bF _ _ (λe=>this (by rw[hd,e]))
def Pq (ops:Array Oper):Prop:=∀(i j t:Nat),(ops[i]?).bind (·.dst)=some t->(ops[j]?).bind (·.dst)=some t->i=j
def Ox {ops:Array Oper}(ho:Pq ops){shs:List Sh}{t i:Nat}(ht:(ops[i]?).bind (·.dst)=some t):∀{l:List Nat} {f:Nat->Sh},i∈l->gq ops shs l f t=shs.getD i .none
 |[],_,h=>nomatch h
 |j::l,f,h=>by
  rw[Oy];by_cases hl:i∈l
  .exact Ox ho ht hl
  .have e:i=j:=(cU.1 h).resolve_right hl;subst e;rw[IP λk hk e=>hl (by rw[ho i k t ht e];exact hk),ht];exact aP _ _ _
def ai8 {ops:Array Oper}(ho:Pq ops){shs Wy:List Sh}{l m:List Nat}{f:Nat->Sh}{t:Nat}(h1:∀i,(ops[i]?).bind (·.dst)=some t->(i∈l↔i∈m))(h2:∀i,i∈l->(ops[i]?).bind (·.dst)=some t->shs.getD i .none=Wy.getD i .none):gq ops shs l f t=gq ops Wy m f t:=by
 by_cases hh:∃i,i∈l/\(ops[i]?).bind (·.dst)=some t
 .obtain⟨i,hi,ht⟩:=hh;rw[Ox ho ht hi,Ox ho ht ((h1 i ht).1 hi),h2 i hi ht]
 .rw[IP λi hi e=>hh ⟨i,hi,e⟩,IP λi hi e=>hh ⟨i,(h1 i e).2 hi,e⟩]
def awa {ops:Array Oper}(h:(ops.toList.filterMap (·.dst)).Nodup):Pq ops:=by
 intro i j t hi hj;rw[ay] at hi hj;obtain⟨oi,h1,h2⟩:=hi;obtain⟨oj,h3,h4⟩:=hj;by_cases e:i=j
 .exact e
 .exact(yw.dst_once h h1 h3 h2 h4 e).elim
def Rc {C:Ctx}{S:St}{ops:Array Oper}:∀{k:Nat} {q:List (Sh×List PI)},B4 C S ops k=some q->q.length=k/\∀i,i<k->∃o,ops[i]?=some o/\
 v8 C (S.withR (gq ops (q.map (·.1)) (List.range i) S.r)) ops o=some ((q.map (·.1)).getD i .none,(q.map (·.2)).getD i [])
 |0,q,h=>by simp only[B4,aX] at h;subst h;exact⟨rfl,λi hi=>by omega⟩
 |k+1,q,h=>by
  simp only[B4,ay] at h;obtain⟨p,hp,h⟩:=h;split at h
  case h_2=>cases h
  rename_i o ho;simp only[aD] at h;obtain⟨r,hr,rfl⟩:=h;obtain⟨l1,aS⟩:=Rc hp;have same:∀i,i<=k->gq ops ((p++[r]).map (·.1)) (List.range i) S.r=gq ops (p.map (·.1)) (List.range i) S.r:=by
   intro i hi;have key:∀(l:List Nat) (f:Nat->Sh),(∀j,j∈l->j<p.length)->gq ops ((p++[r]).map (·.1)) l f=gq ops (p.map (·.1)) l f:=by
    intro l
    induction l with
    |nil=>intro f _;rfl
    |cons j l ih=>
     intro f hl;have hj:=hl j (dZ ..);have e:((p++[r]).map (·.1)).getD j .none=(p.map (·.1)).getD j .none:=by
       rw[mi,aK,kL (by simpa using hj),<-aK]
     rw[Oy,Oy,e,ih _ λm hm=>hl m (dV _ hm)]
   exact key _ _ λj hj=>by have:=cw.1 hj;omega
  refine⟨by simp[l1],λi hi=>?_⟩;by_cases e:i=k
  .subst e;refine⟨o,ho,?_⟩;rw[same i (bj _),hr];have e1:((p++[r]).map (·.1)).getD i .none=r.1:=by
    rw[mi,aK,mf (by simp[l1])];simp[l1]
   have e2:((p++[r]).map (·.2)).getD i []=r.2:=by
    rw[mi,aK,mf (by simp[l1])];simp[l1]
   rw[e1,e2]
  .obtain⟨o',h1,h2⟩:=aS i (by omega);refine⟨o',h1,?_⟩;rw[same i (by omega),h2];have:i<p.length:=by omega
   simp only[mi,aK];rw[kL (by simpa using this),kL (by simpa using this)]
def K9 (ops:Array Oper):∀k,(eg ops k).length=k
 |0=>rfl
 |k+1=>by simp[eg,K9 ops k]
def aa4 (ops:Array Oper){k m i:Nat}(h:i<k)(hm:k<=m):(eg ops m).getD i 0=(eg ops k).getD i 0:=by
 induction m with
 |zero=>omega
 |succ m ih=>
  by_cases e:k=m+1
  .rw[e]
  .rw[<-ih (by omega)];simp only[eg,aK];rw[kL (by rw[K9];omega)]
def La {ops:Array Oper}{N i m:Nat}{o:Oper}(hi:i<N)(ho:ops[i]?=some o)(ak:(o.after.toList.all λe=> !Region.binds .any e||Nat.blt e.on i)=true)(h:aA ((eg ops N).getD i 0) m=true):
 ∃e,e∈o.after.toList/\Region.binds .any e=true/\(m=e.on\/aA ((eg ops N).getD e.on 0) m=true):=by
 rw[aa4 ops (k:=i+1) (by omega) (by omega)] at h
 have e1:(eg ops (i+1)).getD i 0=o.after.toList.foldr (λe m=>bif Region.binds .any e then Nat.lor (Nat.lor (eC e.on) ((eg ops i).getD e.on 0)) m else m) 0:=by
  simp only[eg,aK];rw[mf (by rw[K9];exact bj _),K9];simp[ho]
 rw[e1] at h;have aS:=bR.1 ak;generalize o.after.toList=l at h aS
 induction l with
 |nil=>rw[tX] at h;simp at h
 |cons e l ih=>
  simp only[List.foldr_cons] at h;cases hb:Region.binds .any e<;>rw[hb] at h<;>simp only[zyy,zyx] at h
  .obtain⟨e',h1,h2⟩:=ih h (λx hx=>aS x (dV _ hx));exact⟨e',dV _ h1,h2⟩
  .rw[gd,gd,fZ,fZ] at h;have re:e.on<i:=by
        have:=aS e (dZ ..);rw[hb] at this;simpa [jB] using this
   rcases h with(h|h)|h
   .refine⟨e,dZ ..,hb,.inl ?_⟩;have:=jV 0 e.on m;have z:aA 0 m=false:=by rw[tX];simp
    rw[gd,z,rV,rV,h] at this;exact(dp this.symm).symm
   .refine⟨e,dZ ..,hb,.inr ?_⟩;rw[aa4 ops re (by omega)];exact h
   .obtain⟨e',h1,h2⟩:=ih h (λx hx=>aS x (dV _ hx));exact⟨e',dV _ h1,h2⟩
section
variable {C:Ctx} {S:St} {O:Env} {V:Im} {own:Nat->Option Nat} {hv:Nat->Value} {w0:World} {σ0:Base} {A:Nat->Prop} {a:Act} {w:World} {n:Nat} {ids:List Nat} {Z:aQ}
def aiD {ops:Array Oper}{listed:Array Bool}{E:Nat}(aF:listed.size=ops.size)(hl:∀i,listed.getD i false=aA E i)(i:Nat):i∈Region.ready .any ops listed↔i∈mS ops E:=by
 unfold Region.ready mS;simp only[eO,cw];refine and_congr_right λhi=>?_;have h1:listed.getD i true=aA E i:=by
  rw[<-hl i];simp only[eM];rw[gw (by omega)];rfl
 have h2:ops[i]?=some ops[i]:=gw hi;rw[h1,h2];simp only[kO,kN,<-ZR,hl]
def xA (ops:Array Oper)(E:Nat):Nat->Prop:=λt=>∃i o,aA E i=true/\ops[i]?=some o/\o.dst=some t
def tD (ops:Array Oper)(E:Nat):Nat:=((List.range ops.size).filter λi=> !aA E i).length
def aCm {ops:Array Oper}{E i:Nat}(hi:i<ops.size)(hb:aA E i=false):tD ops E=tD ops (Nat.lor E (eC i))+1:=by
 unfold tD;obtain⟨l1,l2,hl⟩:=Z3 (cw.2 hi);have bC:=Pl (n:=ops.size);rw[hl,AO] at bC;obtain⟨_,h2,h3⟩:=bC;rw[nO] at h2;have g1:∀j,j∈l1->j≠i:=λj hj=>h3 j hj i (dZ ..);have g2:∀j,j∈l2->j≠i:=λj hj e=>h2.1 (e▸hj)
 have c:∀l:List Nat,(∀j,j∈l->j≠i)->(l.filter λj=> !aA (Nat.lor E (eC i)) j)=l.filter λj=> !aA E j:=by
  intro l hl;apply Z8;intro j hj;rw[jV,ff (λe=>hl j hj e.symm),vA]
 have dG:aA (Nat.lor E (eC i)) i=true:=by rw[jV,iL,oR]
 rw[hl];simp only[D9,List.filter_cons,c l1 g1,c l2 g2,hb,dG,tL,Bool.not_false,if_true,xU,if_false,mh,mY];omega
def ao4 {rd:Option Nat}(hC:CtxOK C σ0)(bh:dQ C)(hΦ:dt C Z)(hY:qz C Z w0 σ0){a0:Act}(Sa:a0.tmps.size=n){ops:Array Oper}(av:tl n ops=true)(eQ:B9 ops=true){m:Nat}(hm:m<=ops.size){q:List (Sh×List PI)}(hq:B4 C S ops m=some q)
 (wE:Fz ops (ru (q.map (·.2)) m) (eg ops ops.size) m=true) (CC:∀i,m<=i->i<ops.size->∀j,j<i->aA ((eg ops ops.size).getD i 0) j=true) {Q:Exit->Act->World->Prop} {O':Env}
 (hK:∀listed a' w',listed.size=ops.size->(∀i,listed.getD i false=decide (i<m))->SameBut (sm ops) a0 a'->Good C w0 σ0 (S.withR (gq ops (q.map (·.1)) (List.range m) S.r)) O' (mU ops (List.range m)) a' w'->wpAnyIn (FR rd) 0 C.P .any ops Q (ops.size-m) listed a' w'):
 ∀(k E:Nat) (listed:Array Bool) (O:Env) (a:Act) (w:World),tD ops E=k->(∀j,aA E j=true->j<m)->(∀j,j<ops.size->aA E j=true->∀m,aA ((eg ops ops.size).getD j 0) m=true->aA E m=true)->listed.size=ops.size->(∀i,listed.getD i false=aA E i)->SameBut (sm ops) a0 a->
  Good C w0 σ0 (S.withR (gq ops (q.map (·.1)) ((List.range m).filter (aA E)) S.r)) O (xA ops E) a w->PI.runs Z (fq (q.map (·.2)) (List.range m) E) O=some O'->wpAnyIn (FR rd) 0 C.P .any ops Q k listed a w:=by
 have Mc:=av;simp only[tl,au] at av;have bC:=mH av.1;have Sm:=awa bC;obtain⟨hlen,aS⟩:=Rc hq;unfold Fz at wE;rw[au] at wE
 have FL:∀i,i<ops.size->∀o,ops[i]?=some o->(o.after.toList.all λe=> !Region.binds .any e||Nat.blt e.on i)=true:=by
  intro i hi o ho;have:=bR.1 wE.2 i (cw.2 hi);unfold Ln at this;rw[ho] at this;exact this
 have asq:∀i,i<m->∀o,ops[i]?=some o->((ru (q.map (·.2)) m).getD i []).all (aA ((eg ops ops.size).getD i 0))=true/\
  ∀t,t∈aiC ops o->∀j,j<ops.size->(ops[j]?).bind (·.dst)=some t->(j<i/\aA ((eg ops ops.size).getD i 0) j=true)\/aA ((eg ops ops.size).getD j 0) i=true:=by
  intro i hi o ho;have:=bR.1 wE.1 i (cw.2 hi);unfold abO at this;rw[ho] at this;simp only[au] at this;refine⟨this.1.1,λt ht j hj hd=>?_⟩;have:=bR.1 (bR.1 this.2 t ht) j (cw.2 hj);rw[hd] at this;simp only[iL,tL,rV,fZ,au,jB] at this;exact this
 have aav:∀(k E:Nat) (listed:Array Bool) (O:Env) (a:Act) (w:World),(∀i,i<m->aA E i=true)->tD ops E=k->(∀j,aA E j=true->j<m)->listed.size=ops.size->(∀i,listed.getD i false=aA E i)->SameBut (sm ops) a0 a->
  Good C w0 σ0 (S.withR (gq ops (q.map (·.1)) ((List.range m).filter (aA E)) S.r)) O (xA ops E) a w->PI.runs Z (fq (q.map (·.2)) (List.range m) E) O=some O'->wpAnyIn (FR rd) 0 C.P .any ops Q k listed a w:=by
  intro k E listed O a w jF hk yZ aF hl hn hg ar;have hb:∀i,aA E i=decide (i<m):=by
   intro i;by_cases h:i<m
   .rw[jF i h,decide_eq_true h]
   .rw[decide_eq_false h];cases hb:aA E i with
    |false=>rfl
    |true=>exact absurd (yZ i hb) h
  have RN:fq (q.map (·.2)) (List.range m) E=[]:=by
   unfold fq;rw[alr];intro i hi;rw[jF i (cw.1 hi)];rfl
  rw[RN] at ar;simp only[PI.runs,aX] at ar;subst ar;have aq6:tD ops E=ops.size-m:=by
   unfold tD
   have key:∀N,m<=N->((List.range N).filter λi=> !aA E i).length=N-m:=by
        intro N
        induction N with
        |zero=>intro _;simp
        |succ N ih=>
         intro hN;rw[Jh,D9,mh];by_cases h:m<=N
         .rw[ih h];simp[hb N,Nat.not_lt.2 h];omega
         .have:m=N+1:=by omega
          have e:(List.range N).filter (λi=> !aA E i)=[]:=by
           rw[Z9];intro i hi;rw[jF i (by have:=cw.1 hi;omega)];simp
          have hN':aA E N=true:=jF N (by omega);rw[e];simp[hN'];omega
   exact key _ hm
  have ef:(List.range m).filter (aA E)=List.range m:=List.filter_eq_self.2 λi hi=>jF i (cw.1 hi);rw[ef] at hg;have rj:xA ops E=mU ops (List.range m):=by
   funext t;apply propext;constructor
   .rintro⟨i,o,h1,h2,h3⟩;exact⟨i,o,cw.2 (yZ i h1),h2,h3⟩
   .rintro⟨i,o,h1,h2,h3⟩;exact⟨i,o,jF i (cw.1 h1),h2,h3⟩
  rw[rj] at hg;rw[<-hk,aq6];exact hK listed a w aF (λi=>by rw[hl i,hb i]) hn hg
 intro k
 induction k with
 |zero=>
  intro E listed O a w hk yZ LM aF hl hn hg ar;refine aav 0 E listed O a w (λi hi=>?_) hk yZ aF hl hn hg ar;cases hb:aA E i with
  |true=>rfl
  |false=>
   have:i∈(List.range ops.size).filter λi=> !aA E i:=eO.2 ⟨cw.2 (by omega),by rw[hb];rfl⟩;unfold tD at hk;rw[List.length_eq_zero_iff.1 hk] at this;cases this
 |succ k ih=>
  intro E listed O a w hk yZ LM aF hl hn hg ar;by_cases jF:∀i,i<m->aA E i=true
  .exact aav (k+1) E listed O a w jF hk yZ aF hl hn hg ar
  refine⟨λhe=>?_,λi hi=>?_⟩
  ·
   obtain⟨i,hi,ar7⟩:∃i,(i<m/\aA E i=false)/\∀j,j<i->aA E j=true:=by
        have hex:∃i,i<m/\aA E i=false:=by
         refine vB λeH=>jF λi hi=>?_;cases hb:aA E i with
         |true=>rfl
         |false=>exact absurd ⟨i,hi,hb⟩ eH
        obtain⟨i,hi⟩:=hex
        induction i using Nat.strongRecOn with
        |ind i kC=>
         by_cases hh:∃j,j<i/\aA E j=false
         .obtain⟨j,hj,hb⟩:=hh;exact kC j hj ⟨by omega,hb⟩
         .refine⟨i,hi,λj hj=>?_⟩;cases hb:aA E j with
          |true=>rfl
          |false=>exact absurd ⟨j,hj,hb⟩ hh
   have pz:i<ops.size:=by omega
   have ho:ops[i]?=some ops[i]:=gw pz;have cR:i∈mS ops E:=by
        unfold mS;simp only[eO,cw,au,iZ,ho];refine⟨pz,hi.2,?_⟩;rw[bR];intro e iP;have:=bR.1 (FL i pz _ ho) e iP;cases hb:Region.binds .any e with
        |false=>rfl
        |true=>
         rw[hb] at this;simp only[tL,rV,jB] at this;rw[ar7 _ this];rfl
   rw[<-aiD aF hl,he] at cR;cases cR
  .rw[aiD aF hl] at hi;unfold mS at hi;simp only[eO,cw,au,iZ] at hi;obtain⟨bG,dv,wu⟩:=hi;have ho0:ops[i]?=some ops[i]:=gw bG;generalize ops[i]=o at ho0;have ho:=ho0;rw[ho] at wu;simp only at wu;have o2:=FL i bG o ho;have Ci:∀m,aA ((eg ops ops.size).getD i 0) m=true->aA E m=true:=by
        intro m hm;obtain⟨e,kr,lQ,RM⟩:=La bG ho o2 hm;have hE:aA E e.on=true:=by
         have:=bR.1 wu e kr
         rwa [lQ,tL,rV] at this
        rcases RM with rfl|RM
        .exact hE
        .have re:e.on<i:=by
          have:=bR.1 o2 e kr;rw[lQ] at this;simpa [jB] using this
         exact LM e.on (by omega) hE m RM
   have lS:i<m:=by
        refine vB λeH=>jF λj hj=>?_;exact Ci j (CC i (by omega) bG j (by omega))
   obtain⟨o',eW,jI⟩:=aS i lS;rw[ho] at eW;cases eW;obtain⟨o1,o3⟩:=asq i lS o ho;have dw:((ru (q.map (·.2)) m).getD i []).all (aA E)=true:=by
        rw[bR] at o1 ⊢;exact λm hm=>Ci m (o1 m hm)
   have aq9:v8 C (S.withR (gq ops (q.map (·.1)) ((List.range m).filter (aA E)) S.r)) ops o=some ((q.map (·.1)).getD i .none,(q.map (·.2)).getD i []):=by
        rw[<-jI];refine ao2 (S:=S.withR (gq ops (q.map (·.1)) (List.range i) S.r)) λt ht=>?_;refine ai8 Sm (λj hj=>?_) (λ_ _ _=>rfl);have gT:j<ops.size:=by
         rw[ay] at hj;obtain⟨oj,h1,_⟩:=hj;exact(hZ.1 h1).1
        rw[eO,cw,cw];rcases o3 t ht j gT hj with⟨h1,h2⟩|h1
        .exact⟨λ_=>h1,λ_=>⟨by omega,Ci j h2⟩⟩
        .constructor
         .rintro⟨_,qV⟩;have:=LM j gT qV i h1;rw[dv] at this;cases this
         .intro je;exfalso;have key:∀m j,j<ops.size->aA ((eg ops ops.size).getD j 0) m=true->m<j:=by
           intro m j
           induction j using Nat.strongRecOn with
           |ind j kC=>
            intro hj hm;have sI:ops[j]?=some ops[j]:=gw hj;have p2:=FL j hj _ sI;obtain⟨e,e1,e2,e3⟩:=La hj sI p2 hm;have re:e.on<j:=by
                have:=bR.1 p2 e e1;rw[e2] at this;simpa [jB] using this
            rcases e3 with rfl|e3
            .exact re
            .have:=kC e.on re (by omega) e3;omega
          have:=key i j gT h1;omega
   have hcp:=ao1 aq9;rw[aiK lS dv dw,ay] at ar;obtain⟨ρ1,hρ1,hρ2⟩:=ar;have sE:∀d,o.dst=some d->¬xA ops E d/\d<a.tmps.size:=by
        intro d hd;refine⟨λ⟨i',o',dG,eW,ej⟩=>?_,?_⟩
        .have aB:i'≠i:=λe=>by subst e;rw[dv] at dG;cases dG
         exact yw.dst_once bC eW ho ej hd aB
        .have:=bR.1 av.2 o (by simpa using iY ho);simp only[hd,au] at this;rw[hn.size,Sa];simpa [jB] using this.2
   have kz:pR o.op=true:=by
        have:=bR.1 av.2 o (by simpa using iY ho);simp only[au] at this;exact this.1
   have hj:∀j want t,o.guard=some (j,want)->(ops[j]?).bind (·.dst)=some t->xA ops E t:=by
        intro j want t kW ht;rw[ay] at ht;obtain⟨oj,h1,h2⟩:=ht;have wv:=bR.1 eQ o (by simpa using iY ho);simp only[kW] at wv;obtain⟨e,kr,lQ⟩:=xY.1 wv;simp only[au] at lQ;have h3:=bR.1 wu e kr;rw[lQ.1] at h3;simp only[tL,rV] at h3;exact⟨j,oj,by rw[<-dp lQ.2];exact h3,h1,h2⟩
   have aq5:∀j,j<ops.size->aA (Nat.lor E (eC i)) j=true->∀m,aA ((eg ops ops.size).getD j 0) m=true->aA (Nat.lor E (eC i)) m=true:=by
        intro j hj qV m hm;rw[jV,fZ] at qV;rw[jV,fZ];rcases qV with qV|qV
        .exact .inl (LM j hj qV m hm)
        .rw[<-dp qV] at hm;exact .inl (Ci m hm)
   have main:=Lb (rd:=rd) (K:=wpAnyIn (FR rd) 0 C.P .any ops Q k (listed.setIfInBounds i true)) (Q:=Q) hg hC bh hΦ hY kz sE hj hcp hρ1 (λa' w' gC sK=>by
        have hA:(λu=>xA ops E u\/o.dst=some u)=xA ops (Nat.lor E (eC i)):=by
         funext u;apply propext;constructor
         .rintro(⟨i',o',h1,h2,h3⟩|h1)
          .exact⟨i',o',by rw[jV,h1,AF],h2,h3⟩
          .exact⟨i,o,by rw[jV,iL,oR],ho,h1⟩
         .rintro⟨i',o',h1,h2,h3⟩;rw[jV,fZ] at h1;rcases h1 with h1|h1
          .exact .inl ⟨i',o',h1,h2,h3⟩
          .rw[<-dp h1,ho] at h2;cases h2;exact .inr h3
        rw[hA] at gC;have hSt:oN (S.withR (gq ops (q.map (·.1)) ((List.range m).filter (aA E)) S.r)) o ((q.map (·.1)).getD i .none)=S.withR (gq ops (q.map (·.1)) ((List.range m).filter (aA (Nat.lor E (eC i)))) S.r):=by
         have aru:∀t,(oN (S.withR (gq ops (q.map (·.1)) ((List.range m).filter (aA E)) S.r)) o ((q.map (·.1)).getD i .none)).r t=gq ops (q.map (·.1)) ((List.range m).filter (aA (Nat.lor E (eC i)))) S.r t:=by
          intro t;by_cases nk:o.dst=some t
          .have hb:(ops[i]?).bind (·.dst)=some t:=by rw[ho];exact nk
           rw[Ox Sm hb (eO.2 ⟨cw.2 lS,by rw[jV,iL,oR]⟩)];unfold oN;rw[nk];simp[St.setR,aP]
          .have e1:(oN (S.withR (gq ops (q.map (·.1)) ((List.range m).filter (aA E)) S.r)) o ((q.map (·.1)).getD i .none)).r t=gq ops (q.map (·.1)) ((List.range m).filter (aA E)) S.r t:=by
            unfold oN;split
            .rename_i d hd;exact bF _ _ (λe=>nk (by rw[hd,e]))
            .rfl
           rw[e1];refine ai8 Sm (λj hj=>?_) (λ_ _ _=>rfl);have je:¬i=j:=λe=>by subst e;rw[ho] at hj;exact nk hj
           rw[eO,eO,jV,ff je,vA]
         have:∀(X Y:St),X.o=Y.o->X.ver=Y.ver->(∀t,X.r t=Y.r t)->X=Y:=by
          intro X Y h1 h2 h3;cases X;cases Y;simp only at h1 h2 h3;subst h1 h2
          congr 1
          exact funext h3
         refine this _ _ ?_ ?_ aru
         .unfold oN;split<;>rfl
         .unfold oN;split<;>rfl
        rw[hSt] at gC;refine ih _ _ ρ1 a' w' (by have:=aCm bG dv;omega) (λj hj=>by rw[jV,fZ] at hj;rcases hj with hj|hj;exact yZ j hj;rw[<-dp hj];exact lS) aq5 (by simpa using aF) (λj=>?_) (hn.trans (sK.mono λt e=>⟨o,by simpa using iY ho,e⟩)) gC hρ2;rw[jV];simp only[eM,xS];by_cases du:i=j
        .subst du;simp[aF,bG]
        .rw[if_neg du,ff du,vA,<-hl j];simp only[eM])
   simp only[wpOpIn,ho];split
   .rename_i hw;rw[if_pos hw] at main;exact main
   .rename_i hw;rw[if_neg hw] at main;exact⟨λ_ _=>trivial,main⟩
def azg {rd:Option Nat}(hC:CtxOK C σ0)(bh:dQ C)(hΦ:dt C Z)(hY:qz C Z w0 σ0){ops:Array Oper}(av:tl n ops=true)(eQ:B9 ops=true)(FL:(List.range ops.size).all (Ln ops)=true){m:Nat}
 (CC:∀i,m<=i->i<ops.size->∀j,j<i->aA ((eg ops ops.size).getD i 0) j=true) {Q:Exit->Act->World->Prop} {O':Env}:
 ∀(k i:Nat) {S:St} {O:Env} {a:Act} {w:World} {r:St×List PI} (listed:Array Bool),i+k=ops.size->m<=i->listed.size=ops.size->(∀j,listed.getD j false=decide (j<i))->a.tmps.size=n->
  Good C w0 σ0 S O (mU ops (List.range i)) a w->pg C ops (List.range' i k) S=some r->PI.runs Z r.2 O=some O'->
  (∀a' w',SameBut (sm ops) a a'->Good C w0 σ0 r.1 O' (mU ops (List.range ops.size)) a' w'->Q .normal a' w')->wpAnyIn (FR rd) 0 C.P .any ops Q k listed a w:=by
 have Mc:=av;simp only[tl,au] at av;have bC:=mH av.1
 have Pw:∀i,i<ops.size->∀o,ops[i]?=some o->(o.after.toList.all λe=> !Region.binds .any e||Nat.blt e.on i)=true:=by
  intro i hi o ho;have:=bR.1 FL i (cw.2 hi);unfold Ln at this;rw[ho] at this;exact this
 have mem:∀(listed:Array Bool) (i j:Nat),listed.size=ops.size->(∀j,listed.getD j false=decide (j<i))->(j∈Region.ready .any ops listed↔(j<ops.size/\¬j<i/\∀o,ops[j]?=some o->(o.after.toList.all λe=> !Region.binds .any e||decide (e.on<i))=true)):=by
  intro listed i j aF hl;unfold Region.ready;simp only[eO,cw];refine and_congr_right λhj=>?_;have h1:listed.getD j true=decide (j<i):=by
   rw[<-hl j];simp only[eM];rw[gw (by omega)];rfl
  have h2:ops[j]?=some ops[j]:=gw hj;rw[h1,h2];simp only[kO,kN,<-ZR,hl,au,iZ,decide_eq_false_iff_not,aX,forall_eq']
 intro k
 induction k with
 |zero=>
  intro i S O a w r listed hik hmi aF hl hn hg hr ar hQ;simp only[List.range'_zero,pg,aX] at hr;subst hr;rw[oL ar] at hQ;refine⟨?_,hQ a w (.refl _ _) ?_⟩
  .rw[Z6];intro j hj;rw[mem listed i j aF hl] at hj;exact hj.2.1 (by omega)
  .have:i=ops.size:=by omega
   rw[<-this];exact hg
 |succ k ih=>
  intro i S O a w r listed hik hmi aF hl hn hg hr ar hQ;have bG:i<ops.size:=by omega
  have ho:ops[i]?=some ops[i]:=gw bG;generalize ops[i]=o at ho;refine⟨λhe=>?_,λi' dG=>?_⟩
  .have:i∈Region.ready .any ops listed:=by
        rw[mem listed i i aF hl];refine⟨bG,by omega,λo' eW=>?_⟩;rw[bR];intro e iP;have:=bR.1 (Pw i bG o' eW) e iP;cases hb:Region.binds .any e with
        |false=>rfl
        |true=>
         rw[hb] at this;simp only[tL,rV,jB] at this;simpa using this
   rw[he] at this;cases this
  .rw[mem listed i i' aF hl] at dG;obtain⟨h1,h2,h3⟩:=dG;obtain rfl:i'=i:=by
        refine vB λaB=>?_;have eW:ops[i']?=some ops[i']:=gw h1;have Ci:=CC i' (by omega) h1 i (by omega);have ak:∀m j,j<ops.size->aA ((eg ops ops.size).getD j 0) m=true->m<j:=by
         intro m j
         induction j using Nat.strongRecOn with
         |ind j kC=>
          intro hj hm;have sI:ops[j]?=some ops[j]:=gw hj;have p2:=Pw j hj _ sI;obtain⟨e,e1,e2,e3⟩:=La hj sI p2 hm;have re:e.on<j:=by
           have:=bR.1 p2 e e1;rw[e2] at this;simpa [jB] using this
          rcases e3 with rfl|e3
          .exact re
          .have:=kC e.on re (by omega) e3;omega
        obtain⟨e,e1,e2,e3⟩:=La h1 eW (Pw i' h1 _ eW) Ci;have h4:=bR.1 (h3 _ eW) e e1;rw[e2] at h4;simp only[tL,rV,decide_eq_true_eq] at h4;rcases e3 with e3|e3
        .omega
        .have:=ak i e.on (by omega) e3;omega
   rw[Jg] at hr;simp only[pg,ho] at hr;simp only[ay,aD] at hr;obtain⟨r1,jM,q,hq,rfl⟩:=hr;simp only[qg,ay] at ar;obtain⟨ρ1,hρ1,hρ2⟩:=ar;have sE:∀d,o.dst=some d->¬mU ops (List.range i') d/\d<a.tmps.size:=by
        intro d hd;refine⟨λ⟨i2,o2,yT,fF,dX⟩=>?_,?_⟩
        .have aB:i2≠i':=by have:=cw.1 yT;omega
         exact yw.dst_once bC fF ho dX hd aB
        .have:=bR.1 av.2 o (by simpa using iY ho);simp only[hd,au] at this;rw[hn];simpa [jB] using this.2
   have kz:pR o.op=true:=by
        have:=bR.1 av.2 o (by simpa using iY ho);simp only[au] at this;exact this.1
   have hj:∀j want t,o.guard=some (j,want)->(ops[j]?).bind (·.dst)=some t->mU ops (List.range i') t:=by
        intro j want t kW ht;rw[ay] at ht;obtain⟨oj,h1,h2⟩:=ht;have wv:=bR.1 eQ o (by simpa using iY ho);simp only[kW] at wv;obtain⟨e,kr,lQ⟩:=xY.1 wv;simp only[au] at lQ;have h4:=bR.1 (h3 o ho) e kr;rw[lQ.1] at h4;simp only[tL,rV,decide_eq_true_eq] at h4;exact⟨j,oj,cw.2 (by rw[<-dp lQ.2];exact h4),h1,h2⟩
   have main:=Lb (rd:=rd) (K:=wpAnyIn (FR rd) 0 C.P .any ops Q k (listed.setIfInBounds i' true)) (Q:=Q) hg hC bh hΦ hY kz sE hj jM hρ1 (λa' w' gC jN=>by
        have:(λu=>mU ops (List.range i') u\/o.dst=some u)=mU ops (List.range (i'+1)):=by
         funext u;apply propext;constructor
         .rintro(⟨i2,o2,h1,h2,h3⟩|h1)
          .exact⟨i2,o2,cw.2 (by have:=cw.1 h1;omega),h2,h3⟩
          .exact⟨i',o,cw.2 (by omega),ho,h1⟩
         .rintro⟨i2,o2,g1,g2,g3⟩;by_cases e:i2=i'
          .rw[e,ho] at g2;cases g2;exact .inr g3
          .exact .inl ⟨i2,o2,cw.2 (by have:=cw.1 g1;omega),g2,g3⟩
        rw[this] at gC;refine ih (i'+1) _ (by omega) (by omega) (by simpa using aF) (λj=>?_) (jN.size.trans hn) gC hq hρ2 (λa2 w2 s2 g2=>hQ a2 w2 ((jN.mono λt e=>⟨o,by simpa using iY ho,e⟩).trans s2) g2);simp only[eM,xS];by_cases du:i'=j
        .subst du;simp[aF,bG]
        .rw[if_neg du];have:=hl j;simp only[eM] at this;rw[this];by_cases ak:j<i'
         .rw[decide_eq_true ak,decide_eq_true (by omega:j<i'+1)]
         .rw[decide_eq_false ak,decide_eq_false (by omega:¬j<i'+1)])
   simp only[wpOpIn,ho];split
   .rename_i hw;rw[if_pos hw] at main;exact main
   .rename_i hw;rw[if_neg hw] at main;exact⟨λ_ _=>trivial,main⟩
end
def Om (C:Ctx)(n:Nat)(ids:List Nat)(ops:Array Oper)(draw:Bool)(S:Snap):Option (Snap×List PI):=
 bif tl n ops then
    bif draw then
     bif B9 ops&&TC ops&&C.P.follows .mixedOrders then
        match abP C ops (S.st ids) with
        |some r=>some (⟨xD (fS r.1) r.1 S.rs (ops.toList.filterMap (·.dst)),ids.map λj=>jo r.1 (r.1.o j)⟩,r.2)
        |none=>
        (fW C ops (List.range ops.size) (S.st ids)).bind λX=>FN X λX=>FN (ru X ops.size) λnc=>
         (Snap.hard ⟨S.rs.map λs=>l7 (S.st ids) (cS s),ids.map λj=>jo (S.st ids) ((S.st ids).o j)⟩ λT0=>IM ops (tU C.P ops) (Us C ops n ids X nc) ops.size [(0,T0)]).map λT=>(⟨T.rs.map (fS (T.stO ids)),ids.map λj=>jo (T.stO ids) ((T.stO ids).o j)⟩,X.flatten)
     else none
    else bif ab1 ops then(pg C ops (List.range ops.size) (S.st ids)).map λr=>(⟨xD (fS r.1) r.1 S.rs (ops.toList.filterMap (·.dst)),ids.map λj=>jo r.1 (r.1.o j)⟩,r.2) else none
 else none
def Ol (C:Ctx)(n:Nat)(ids:List Nat)(ops:Array Oper)(draw:Bool)(S:Snap):Option (Snap×List PI):=
 (Om C n ids ops draw S).bind λr=>r.1.hard λT=>some (T,r.2)
def ayl (C:Ctx)(n:Nat)(ids:List Nat)(ops:Array Oper)(draw:Bool)(S:Snap):Ol C n ids ops draw S=Om C n ids ops draw S:=by
 unfold Ol;cases Om C n ids ops draw S with
 |none=>rfl
 |some r=>rw[kM,Snap.hard_eq]
def Ap (ops:Array Oper)(E:Nat):Nat->Prop:=λt=>∃i o,aA E i=true/\ops[i]?=some o/\o.dst=some t
section
variable {C:Ctx} {S:St} {O:Env} {V:Im} {own:Nat->Option Nat} {hv:Nat->Value} {w0:World} {σ0:Base} {A:Nat->Prop} {a:Act} {w:World} {n:Nat} {ids:List Nat} {Z:aQ}
def Oi {ops:Array Oper}{listed:Array Bool}{E:Nat}(aF:listed.size=ops.size)(hl:∀i,listed.getD i false=aA E i)(i:Nat):i∈Region.ready .any ops listed↔i∈mS ops E:=by
 unfold Region.ready mS;simp only[eO,cw];refine and_congr_right λhi=>?_;have h1:listed.getD i true=aA E i:=by
  rw[<-hl i];simp only[eM];rw[gw (by omega)];rfl
 have h2:ops[i]?=some ops[i]:=gw hi;rw[h1,h2];simp only[kO,kN,<-ZR,hl]
def ayI {rd:Option Nat}(hC:CtxOK C σ0)(bh:dQ C)(hΦ:dt C Z)(hY:qz C Z w0 σ0){a0:Act}(Sa:a0.tmps.size=n){ops:Array Oper}(av:tl n ops=true)(eQ:B9 ops=true){X:List (List PI)}{Q:Exit->Act->World->Prop}{O':Env}(wL:TC ops=true)(hQp:∀c a w,¬Q (.panic c) a w):
 ∀(k:Nat) {L:List (Nat×Snap)} {T:Snap},IM ops (tU C.P ops) (Us C ops n ids X (ru X ops.size)) k L=some T->
  (∀a' w',SameBut (sm ops) a0 a'->Good C w0 σ0 (T.stO ids) O' (λt=>∃E,Ap ops E t) a' w'->Q .normal a' w')->
  ∀(E:Nat) (U:Snap),(E,U)∈L->∀(listed:Array Bool) (O:Env) (a:Act) (w:World),listed.size=ops.size->(∀i,listed.getD i false=aA E i)->SameBut (sm ops) a0 a->
   Good C w0 σ0 (U.stO ids) O (Ap ops E) a w->PI.runs Z (fq X (List.range ops.size) E) O=some O'->wpAnyIn (FR rd) 0 C.P .any ops Q k listed a w:=by
 simp only[tl,au] at av;have bC:=mH av.1;intro k
 induction k with
 |zero=>
  intro L T hs hQ E U hm listed O a w aF hl hn hg ar;simp only[IM] at hs;split at hs
  case h_2=>cases hs
  rename_i x;cases aS:(List.range ops.size).all (aA x.1)<;>simp only[aS,zyy,zyx] at hs
  .cases hs
  cases hs;simp only[qu] at hm;subst hm;simp only at aS hg hQ ar hl;have jF:=bR.1 aS;have RN:fq X (List.range ops.size) E=[]:=by
   unfold fq;rw[alr];intro i hi;rw[jF i hi];rfl
  rw[RN] at ar;simp only[PI.runs,aX] at ar;subst ar;refine⟨?_,hQ a w hn ?_⟩
  .rw[Z6];intro i hi;rw[Oi aF hl] at hi;unfold mS at hi;simp only[eO,au,iZ] at hi;rw[jF i hi.1] at hi;cases hi.2.1
  .obtain⟨V,own,hv,h⟩:=hg;exact⟨V,own,hv,h.defers,h.ok,h.le,h.old,h.newc,h.newm,h.below,h.bw,h.owns,h.regs,h.objs,λt gs s e=>⟨λg hm=>⟨E,(h.opts t gs s e).1 g hm⟩,(h.opts t gs s e).2⟩,h.frame⟩
 |succ k ih=>
  intro L T hs hQ E U hm listed O a w aF hl hn hg ar;simp only[IM,ay] at hs;obtain⟨L',hL,hs⟩:=hs;obtain⟨_,cR⟩:=aee hL;obtain⟨aB,SH⟩:=cR _ hm;have asc:mS ops E≠[]:=λe=>aB (by unfold qD;rw[e];rfl)
  have cn:∀i,i∈qD ops (tU C.P ops) E->i∈mS ops E:=λi hi=>by
   unfold qD at hi;split at hi
   .rename_i i' hp;rw[qu.1 hi];exact(OI hp).1
   .exact hi
  have step:∀i,i∈qD ops (tU C.P ops) E->∀Q':Exit->Act->World->Prop,wpOpIn (FR rd) 0 C.P ops Q' i (wpAnyIn (FR rd) 0 C.P .any ops Q k (listed.setIfInBounds i true)) a w:=by
   intro i hi Q';obtain⟨y,hy,hyL⟩:=SH i hi;have hi:=cn i hi;unfold mS at hi;simp only[eO,cw,au,iZ] at hi;obtain⟨bG,dv,wu⟩:=hi;simp only[Us] at hy;split at hy
   case h_2=>cases hy
   rename_i o ho;simp only[ay] at hy;obtain⟨r,hr,hy⟩:=hy;cases hc:(PI.beqs r.2 (X.getD i [])&&((ru X ops.size).getD i []).all (aA E))<;>simp only[hc,zyy,zyx] at hy
   .cases hy
   cases hy;simp only[au] at hc;have hX:=PI.beqs_eq _ _ hc.1;rw[aiK bG dv hc.2,ay] at ar;obtain⟨ρ1,hρ1,hρ2⟩:=ar;rw[<-hX] at hρ1;rw[ho] at wu;simp only at wu;have sE:∀d,o.dst=some d->¬Ap ops E d/\d<a.tmps.size:=by
        intro d hd;refine⟨λ⟨i',o',dG,eW,ej⟩=>?_,?_⟩
        .have aB:i'≠i:=λe=>by subst e;rw[dv] at dG;cases dG
         exact yw.dst_once bC eW ho ej hd aB
        .have:=bR.1 av.2 o (by simpa using iY ho);simp only[hd,au] at this;rw[hn.size,Sa];simpa [jB] using this.2
   have kz:pR o.op=true:=by
        have:=bR.1 av.2 o (by simpa using iY ho);simp only[au] at this;exact this.1
   have hj:∀j want t,o.guard=some (j,want)->(ops[j]?).bind (·.dst)=some t->Ap ops E t:=by
        intro j want t kW ht;rw[ay] at ht;obtain⟨oj,h1,h2⟩:=ht;have wv:=bR.1 eQ o (by simpa using iY ho);simp only[kW] at wv;obtain⟨e,kr,lQ⟩:=xY.1 wv;simp only[au] at lQ;have h3:=bR.1 wu e kr;rw[lQ.1] at h3;simp only[tL,rV] at h3;exact⟨j,oj,by rw[<-dp lQ.2];exact h3,h1,h2⟩
   have main:=Lb (rd:=rd) (K:=wpAnyIn (FR rd) 0 C.P .any ops Q k (listed.setIfInBounds i true)) (Q:=Q') hg hC bh hΦ hY kz sE hj hr hρ1 (λa' w' gC sK=>by
        have hA:(λu=>Ap ops E u\/o.dst=some u)=Ap ops (Nat.lor E (eC i)):=by
         funext u;apply propext;constructor
         .rintro(⟨i',o',h1,h2,h3⟩|h1)
          .exact⟨i',o',by rw[jV,h1,AF],h2,h3⟩
          .exact⟨i,o,by rw[jV,iL,oR],ho,h1⟩
         .rintro⟨i',o',h1,h2,h3⟩;rw[jV,fZ] at h1;rcases h1 with h1|h1
          .exact .inl ⟨i',o',h1,h2,h3⟩
          .rw[<-dp h1,ho] at h2;cases h2;exact .inr h3
        rw[hA] at gC
        refine ih hs hQ _ _ hyL _ ρ1 a' w' (by simpa using aF) (λj=>?_) (hn.trans (sK.mono λt e=>⟨o,by simpa using iY ho,e⟩)) (by
         have:=gC.snapO U.rs.length ids
         rw[show r.1.snapO U.rs.length ids=⟨xD (l7 r.1) r.1 U.rs o.dst.toList,ids.map λj=>jo r.1 (r.1.o j)⟩ from by
          unfold St.snapO;rw[IS λt ht=>?_];rw[aa5 hr t (λe=>ht (by rw[e];simp))];rfl] at this
         exact this) hρ2
        rw[jV];simp only[eM,xS];by_cases du:i=j
        .subst du;simp[aF,bG]
        .rw[if_neg du,ff du,vA,<-hl j];simp only[eM])
   simp only[wpOpIn,ho];split
   .rename_i hw;rw[if_pos hw] at main;exact main
   .rename_i hw;rw[if_neg hw] at main;exact⟨λ_ _=>trivial,main⟩
  cases Ss:DR (tU C.P ops) E (mS ops E) with
  |none=>
   have lO:qD ops (tU C.P ops) E=mS ops E:=by unfold qD;rw[Ss]
   refine⟨λhe=>?_,λi hi=>step i (by rw[lO];exact(Oi aF hl i).1 hi) Q⟩;exfalso;refine asc ?_;rw[Z6];intro i hi;rw[<-Oi aF hl,he] at hi;cases hi
  |some i=>
   have lO:qD ops (tU C.P ops) E=[i]:=by unfold qD;rw[Ss]
   obtain⟨hir,b,hb,aqX⟩:=OI Ss;obtain⟨oi,hoi,Sv,Ru⟩:=amD hb;obtain⟨v,hv,hK⟩:=axb hoi Sv (step i (by rw[lO];simp) _);refine aCJ (λj o ho=>?_) hoi (λj o cs b' ho e=>?_) (λc a' w' h=>(hQp _ _ _ h).elim) k listed a w (λj oj hj je mE eH=>Ru j oj hj je (λL0=>?_) eH) ((Oi aF hl i).2 hir) hv hK
   .have:=bR.1 av.2 o (by simpa using iY ho);simp only[au] at this;exact this.1
   .have:=bR.1 wL o (by simpa using iY ho);rw[e] at this;cases this
   .have h1:=bR.1 aqX j L0;have h2:=hl j;rw[h1] at h2;simp only[eM] at h2 mE;cases Cp:listed[j]? with
    |none=>rw[Cp] at h2;cases h2
    |some x=>
     rw[Cp] at h2 mE;simp only[kN] at h2 mE;rw[h2] at mE;cases mE
def ai2 {ops:Array Oper}:∀{l:List Nat} {S:St} {X:List (List PI)},fW C ops l S=some X->X.length=l.length
 |[],S,X,h=>by simp only[fW,aX] at h;subst h;rfl
 |i::l,S,X,h=>by
  simp only[fW] at h;split at h
  case h_2=>cases h
  simp only[ay,aD] at h;obtain⟨r,_,q,hq,rfl⟩:=h;simp[ai2 hq]
def aiL (X:List (List PI)):fq X (List.range X.length) 0=X.flatten:=by
 have h0:∀i,aA 0 i=false:=λi=>by rw[tX];simp
 have key:∀(Y zzu:List (List PI)),fq (Y++zzu) (List.range' Y.length zzu.length) 0=zzu.flatten:=by
  intro Y zzu
  induction zzu generalizing Y with
  |nil=>rfl
  |cons z zzu ih=>
   have:=ih (Y++[z]);simp only[qq,List.singleton_append,mh,mY,tN,iM] at this;rw[mY,Jg];have e:fq (Y++z::zzu) (Y.length::List.range' (Y.length+1) zzu.length) 0=(Y++z::zzu).getD Y.length []++fq (Y++z::zzu) (List.range' (Y.length+1) zzu.length) 0:=by
        unfold fq;rw[xZ,h0];rfl
   rw[e,this,Jb]
   congr 1
   simp[aK]
 have:=key [] X;simp only[vJ,tN] at this;rw[Pm];exact this
def aym (bh:dQ C)(hΦ:dt C Z):Ps C n ids Z (Ol C n ids):=by
 intro id ops draw S r hr rd w0 σ0 O O' a w Q hC hY hn hg ar hQ;rw[ayl] at hr;unfold Om at hr;cases av:tl n ops<;>simp only[av,zyy,zyx] at hr
 .cases hr
 cases draw with
 |false=>
  simp only[zyx] at hr;cases hgb:ab1 ops<;>simp only[hgb,zyy,zyx] at hr
  .cases hr
  simp only[aD] at hr;obtain⟨q,hq,rfl⟩:=hr;refine wpIn_region ?_
  have rj:mU ops []=λ_=>False:=by
   funext t;apply propext;constructor
   .rintro⟨i,o,h,_⟩;cases h
   .intro h;exact h.elim
  refine yw hC bh hΦ hY av (List.range ops.size) [] (by simpa using Pl) (λp i q o j want hl ho kW=>?_) hn (by rw[rj];exact hg) hq ar (λa' w' gE gC=>hQ a' w' gE (by
   have:=gC.snapF S.rs.length ids
   rw[show q.1.snap S.rs.length ids=⟨xD (fS q.1) q.1 S.rs (ops.toList.filterMap (·.dst)),ids.map λj=>jo q.1 (q.1.o j)⟩ from by
        unfold St.snap;rw[IS λt ht=>?_];rw[QP hq t (λi o hi ho e=>ht (vH.2 ⟨o,by simpa using iY ho,e⟩))];show _=fS q.1 (cS (S.rs.getD t .none));cases S.rs.getD t .none<;>rfl] at this
   exact this))
  have hi:i<ops.size:=by
   have:i∈List.range ops.size:=by rw[hl];simp
   exact cw.1 this
  have hb:=bR.1 hgb i (cw.2 hi);rw[ho] at hb;simp only[kW,jB] at hb;have hp:=aag (n:=ops.size);have wy:j∈List.range ops.size:=cw.2 (by omega);rw[hl,aaf] at hp;obtain⟨_,iv,_⟩:=hp;rw[x9] at iv;rw[hl,dH] at wy;simp only[vJ];rcases wy with hm|hm
  .exact hm
  .rcases cU.1 hm with e|hm
   .omega
   .have:=iv.1 j hm;omega
 |true=>
  simp only[zyy] at hr;cases eQ:(B9 ops&&TC ops&&C.P.follows .mixedOrders)<;>simp only[eQ,zyy,zyx] at hr
  .cases hr
  simp only[au] at eQ;have wL:=eQ.1.2
  replace eQ:B9 ops=true/\C.P.follows .mixedOrders=true:=⟨eQ.1.1,eQ.2⟩
  have h0:∀i,aA 0 i=false:=λi=>by rw[tX];simp
  split at hr
  case h_1=>
   rename_i r jI;cases hr;generalize ze:qk (eg ops ops.size) ops.size=m at*;unfold abP at jI;rw[ze] at jI;have ar9:m<=ops.size:=ze▸ajj _ _;have CC:∀i,m<=i->i<ops.size->∀j,j<i->aA ((eg ops ops.size).getD i 0) j=true:=ze▸aji _ _;rw[ay] at jI;obtain⟨q,hq,jI⟩:=jI;cases wE:Fz ops (ru (q.map (·.2)) m) (eg ops ops.size) m<;>simp only[wE,zyy,zyx] at jI
   .cases jI
   rw[aD] at jI;obtain⟨r1,jM,rfl⟩:=jI;refine wpIn_region_any eQ.2 ?_
   have rj:xA ops 0=λ_=>False:=by
        funext t;apply propext;constructor
        .rintro⟨i,o,h,_⟩;rw[h0] at h;cases h
        .intro h;exact h.elim
   have hlen:(q.map (·.2)).length=m:=by rw[fw];exact(Rc hq).1
   have atd:tD ops 0=ops.size:=by
        unfold tD;have:((List.range ops.size).filter λi=> !aA 0 i)=List.range ops.size:=List.filter_eq_self.2 λi _=>by rw[h0];rfl
        rw[this,aad]
   have FX:(List.range m).filter (aA 0)=[]:=Z9.2 λi _=>by rw[h0];simp
   simp only[qg,ay] at ar;obtain⟨ρ1,hρ1,hρ2⟩:=ar;have Sp:=wE;unfold Fz at Sp;rw[au] at Sp;refine ao4 (w0:=w0) (S:=S.st ids) hC bh hΦ hY hn av eQ.1 ar9 hq wE CC (O':=ρ1) (λlisted a' w' aF hl gE gC=>?_) ops.size 0 _ O a _ atd (λj hj=>by rw[h0] at hj;cases hj) (λj _ hj=>by rw[h0] at hj;cases hj) (by simp) (λi=>?_) (.refl _ _) ?_ ?_
   .refine azg hC bh hΦ hY av eQ.1 Sp.2 CC (ops.size-m) m listed (by omega) (bj _) aF hl (gE.size.trans hn) gC jM hρ2 (λa2 w2 s2 g2=>hQ a2 w2 (gE.trans s2) (by
     have:=g2.snapF S.rs.length ids
     rw[show r1.1.snap S.rs.length ids=⟨xD (fS r1.1) r1.1 S.rs (ops.toList.filterMap (·.dst)),ids.map λj=>jo r1.1 (r1.1.o j)⟩ from by
      unfold St.snap;rw[IS λt ht=>?_];rw[QP jM t (λi o hi ho e=>ht (vH.2 ⟨o,by simpa using iY ho,e⟩))]
      have e1:gq ops (q.map (·.1)) (List.range m) (S.st ids).r t=(S.st ids).r t:=IP λi hi e=>by
        rw[ay] at e;obtain⟨o,ho,hd⟩:=e;exact ht (vH.2 ⟨o,by simpa using iY ho,hd⟩)
      show fS _ (S.rs.getD t .none)=fS _ (gq ops (q.map (·.1)) (List.range m) (S.st ids).r t);rw[e1];show _=fS _ (cS (S.rs.getD t .none));cases S.rs.getD t .none<;>rfl] at this
     exact this))
   .rw[h0];simp only[eM,ak8];split<;>rfl
   .rw[rj,FX];exact hg.drew
   .rw[<-hlen,aiL];exact hρ1
  simp only[ach,Snap.hard_eq,ay,aD] at hr;obtain⟨X,hX,T,hT,rfl⟩:=hr;refine wpIn_mono (Q:=λe a w=>(∀c,e≠.panic c)/\Q e a w) ?_ λe a w h=>h.2;refine wpIn_region_any eQ.2 ?_
  have rj:Ap ops 0=λ_=>False:=by
   funext t;apply propext;constructor
   .rintro⟨i,o,h,_⟩;rw[h0] at h;cases h
   .intro h;exact h.elim
  have hlen:=ai2 hX;rw[aad] at hlen
  refine ayI (w0:=w0) hC bh hΦ hY hn av eQ.1 (O':=O') wL (λc a w h=>h.1 c rfl) ops.size hT (λa' w' gE gC=>⟨λc e=>(by cases e),hQ a' w' gE (by
   have:=gC.snapF T.rs.length ids
   rw[show(T.stO ids).snap T.rs.length ids=⟨T.rs.map (fS (T.stO ids)),ids.map λj=>jo (T.stO ids) ((T.stO ids).o j)⟩ from by
        unfold St.snap;have:=IS (g:=fS (T.stO ids)) (S:=T.stO ids) (rs:=T.rs) (ds:=[]) (λt _=>rfl);rw[<-this];rfl] at this
   exact this)⟩) 0 _ (qu.2 rfl) _ O a _ (by simp) (λi=>?_) (.refl _ _) ?_ ?_
  .rw[h0];simp only[eM,ak8];split<;>rfl
  .rw[rj];have:=(hg.drew).snapO S.rs.length ids
   rw[show(S.st ids).snapO S.rs.length ids=⟨S.rs.map λs=>l7 (S.st ids) (cS s),ids.map λj=>jo (S.st ids) ((S.st ids).o j)⟩ from by
        unfold St.snapO
        have:=IS (g:=λs=>l7 (S.st ids) (cS s)) (S:=S.st ids) (rs:=S.rs) (ds:=[]) (λt _=>by
         show l7 _ (cS (S.rs.getD t .none))=l7 _ (cS (cS (S.rs.getD t .none)));cases S.rs.getD t .none<;>rfl)
        have h2:(λt=>l7 (S.st ids) (cS ((S.st ids).r t)))=λt=>l7 (S.st ids) ((S.st ids).r t):=by
         funext t;show l7 _ (cS (cS (S.rs.getD t .none)))=l7 _ (cS (S.rs.getD t .none));cases S.rs.getD t .none<;>rfl
        rw[h2] at this;rw[<-this];rfl] at this
   exact this
  .rw[<-hlen,aiL];exact ar
end
end Cx
