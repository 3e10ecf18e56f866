import Derived.Test.YtnkkihnmnfihnaaGreatDoorMAG
import Derived.OrdersIn
set_option linter.all false
namespace Cx
open Go Go.RowKit
def mc (S:St):Sh->Sh
 |.opt gs s=>.opt gs (fM S s)
 |s=>fM S s
def St.snapO (n:Nat)(ids:List Nat)(S:St):Snap:=⟨(List.range n).map λt=>mc S (S.r t),ids.map λj=>jr S (S.o j)⟩
def Snap.stO (ids:List Nat)(s:Snap):St:=⟨λt=>s.rs.getD t .none,λj=>dG ids s.os j,λ_=>0⟩
def tc (S:St)(s:Sh):∀gs s',fM S s≠.opt gs s':=by
 intro gs s' e;cases s<;>simp only[fM] at e<;>first|cases e|(revert e;cases Nat.beq _ _<;>intro e<;>cases e)|(revert e;cases List.all _ _<;>intro e<;>cases e)
section
variable {C:Ctx} {S:St} {O:Env} {V:Im} {own:Nat->Option Nat} {hv:Nat->Value} {w0:World} {σ0:Base} {A:Nat->Prop} {a:Act} {w:World} {n:Nat} {ids:List Nat} {Z:aW}
def auh {s:Sh}{v:Value}{d:D}(h:aI C S O V hv s v d){T:St}(hT:T.ver=λ_=>0):aI C T O V hv (mc S s) v d:=by
 have hc:Compat S.norm hv T hv:=⟨λj=>by rw[hT];exact om _,λ_ _=>rfl⟩
 have key:∀s,aI C S O V hv s v d->aI C T O V hv (fM S s) v d:=λs hs=>aI.mono' (.refl V) hc (tc S s) (Mj hs).1;cases s with
 |opt gs s=>exact⟨λhh=>key s (h.1 hh),h.2⟩
 |_=>exact key _ h
def Good.snapO (h:Good C w0 σ0 S O A a w)(n:Nat)(ids:List Nat):Good C w0 σ0 ((S.snapO n ids).stO ids) O A a w:=by
 obtain⟨V,own,hv,h⟩:=h;have h1:=h.norm;have hc:Compat S.norm hv ((S.snapO n ids).stO ids) hv:=⟨λ_=>bB _,λ_ _=>rfl⟩
 refine⟨V,own,hv,h.defers,h.ok,h.le,h.old,h.newc,h.newm,h.below,h.bw,h.owns,λt=>?_,λj=>?_,λt gs s e=>?_,?_⟩
 rotate_right
 .obtain⟨t,fx,cx,f1,f5⟩:=h.frame;refine⟨t,fx,cx,f1,λj hj=>f5 j ?_⟩;exact zm (λj=>jr S (S.o j)) (λob=>ob=.tr->S.o j=.tr) (λe=>by cases e) j ael ids hj
 .show aI C _ O V hv (((List.range n).map λt=>mc S (S.r t)).getD t .none) _ _;rw[aL,cM];by_cases ht:t<n
  .rw[sn ht];exact auh (h.regs t) rfl
  .rw[tP (by simpa using ht)];trivial
 .have ho:=(h1.objs j).mono (.refl V) hc (w:=w) (w':=w) rfl rfl (λk hk=>⟨hk,rfl⟩);exact zm (λj=>jr S (S.o j)) (λob=>cI C _ O V own hv w w0.heap.size j ob) trivial j ho ids
 .change ((List.range n).map λt=>mc S (S.r t)).getD t .none=.opt gs s at e;rw[aL,cM] at e;by_cases ht:t<n
  .rw[sn ht] at e;simp only[ld,jc] at e;cases hs:S.r t with
   |opt bZ s'=>
    rw[hs] at e;simp only[mc,Sh.opt.injEq] at e;obtain⟨rfl,rfl⟩:=e;exact⟨(h.opts t bZ s' hs).1,tc S s'⟩
   |none=>rw[hs] at e;exact absurd e (tc S .none gs s)
   |yv=>rw[hs] at e;exact absurd e (tc S .yv gs s)
   |fclo f c=>rw[hs] at e;exact absurd e (tc S (.fclo f c) gs s)
   |agg l=>rw[hs] at e;exact absurd e (tc S (.agg l) gs s)
   |dat t=>rw[hs] at e;exact absurd e (tc S (.dat t) gs s)
   |obj t u=>rw[hs] at e;exact absurd e (tc S (.obj t u) gs s)
   |ptr t u v=>rw[hs] at e;exact absurd e (tc S (.ptr t u v) gs s)
   |eptr t u v x=>rw[hs] at e;exact absurd e (tc S (.eptr t u v x) gs s)
  .rw[tP (by simpa using ht)] at e;cases e
def Good.snapF (h:Good C w0 σ0 S O A a w)(n:Nat)(ids:List Nat):Good C w0 σ0 ((S.snap n ids).st ids) O (λ_=>False) a w:=by
 obtain⟨V,own,hv,h⟩:=h;exact⟨V,own,hv,h.snap n ids⟩
def Good.drew (h:Good C w0 σ0 S O A a w):Good C w0 σ0 S O A a {w with drawn:=w.drawn+1}:=by
 obtain⟨V,own,hv,h⟩:=h;refine⟨V,own,hv,h.defers,⟨λk o v e=>h.ok.c k o v e,λk es e=>h.ok.m k es e⟩,h.le,h.old,h.newc,h.newm,h.below.drew,h.bw,h.owns,h.regs,λj=>?_,h.opts,?_⟩
 rotate_right
 .obtain⟨t,fx,cx,f1,f2⟩:=h.frame;exact⟨t,fx,cx,⟨σ0.keep _ _ _ _ _ f1.F (Below.drew (.refl _ _)) (λ_ _=>rfl),f1.own,f1.c,f1.m,f1.d⟩,f2⟩
 exact(h.objs j).mono (.refl V) (.refl S hv) rfl rfl (λk hk=>⟨hk,rfl⟩)
end
def xw (g:Sh->Sh)(S:St)(rs:List Sh)(ds:List Nat):List Sh:=(ds.foldl (λl d=>l.set d (S.r d)) rs).map g
def abe (S:St):∀(ds:List Nat) (rs:List Sh),(ds.foldl (λl d=>l.set d (S.r d)) rs).length=rs.length/\∀t,t<rs.length->(ds.foldl (λl d=>l.set d (S.r d)) rs).getD t .none=if t∈ds then S.r t else rs.getD t .none
 |[],rs=>⟨rfl,λt _=>by simp⟩
 |d::ds,rs=>by
  obtain⟨h1,h2⟩:=abe S ds (rs.set d (S.r d));simp only[List.length_set] at h1 h2;refine⟨h1,λt ht=>?_⟩;rw[Ak,h2 t ht];simp only[cQ,aL,DW];by_cases hm:t∈ds
  .simp[hm]
  .by_cases e:d=t
   .subst e;simp[hm,ht]
   .have e':¬t=d:=λh=>e h.symm;simp[hm,e,e']
def H3 {g:Sh->Sh}{S:St}{rs:List Sh}{ds:List Nat}(h:∀t,t∉ds->g (rs.getD t .none)=g (S.r t)):xw g S rs ds=(List.range rs.length).map λt=>g (S.r t):=by
 obtain⟨h1,h2⟩:=abe S ds rs;unfold xw;apply ZM;intro t;simp only[cM];by_cases ht:t<rs.length
 .have:=h2 t ht;rw[aL,bL (by omega)] at this;rw[bL (by omega),sn ht];simp only[jc,ld] at this ⊢;rw[this];by_cases hm:t∈ds
  .simp[hm]
  .simp only[hm,if_false];rw[h t hm]
 .rw[tP (by omega),tP (by simpa using ht)];rfl
def Sh.hd {α:Type}(s:Sh)(k:Sh->α):α:=
 match s with
 |.none=>k .none
 |.dat t=>k (.dat t)
 |.obj j v=>k (.obj j v)
 |.ptr j v o=>k (.ptr j v o)
 |.eptr j v z o=>k (.eptr j v z o)
 |.opt gs s=>k (.opt gs s)
 |.yv=>k .yv
 |.fclo f c=>k (.fclo f c)
 |.agg l=>k (.agg l)
def Sh.hd_eq {α:Type}(s:Sh)(k:Sh->α):s.hd k=k s:=by cases s<;>rfl
def B0 {α:Type}:List Sh->(List Sh->α)->α
 |[],k=>k []
 |s::l,k=>s.hd λs=>B0 l λl=>k (s::l)
def QU {α:Type}:∀(l:List Sh) (k:List Sh->α),B0 l k=k l
 |[],_=>rfl
 |s::l,k=>by rw[B0,Sh.hd_eq,QU l]
def Ob.hd {α:Type}(s:Ob)(k:Ob->α):α:=
 match s with
 |.dead=>k .dead
 |.fz t=>k (.fz t)
 |.fbox t=>k (.fbox t)
 |.box true l=>B0 l λl=>k (.box true l)
 |.box false l=>B0 l λl=>k (.box false l)
 |.row T e=>k (.row T e)
 |.mp a b=>k (.mp a b)
 |.it a b=>k (.it a b)
 |.tr=>k .tr
def Ob.hd_eq {α:Type}(s:Ob)(k:Ob->α):s.hd k=k s:=by
 cases s with
 |box ag l=>cases ag<;>simp only[Ob.hd,QU]
 |_=>rfl
def K6 {α:Type}:List Ob->(List Ob->α)->α
 |[],k=>k []
 |s::l,k=>s.hd λs=>K6 l λl=>k (s::l)
def abC {α:Type}:∀(l:List Ob) (k:List Ob->α),K6 l k=k l
 |[],_=>rfl
 |s::l,k=>by rw[K6,Ob.hd_eq,abC l]
def Snap.hard {α:Type}(s:Snap)(k:Snap->α):α:=B0 s.rs λa=>K6 s.os λb=>k ⟨a,b⟩
def Snap.hard_eq {α:Type}(s:Snap)(k:Snap->α):s.hard k=k s:=by rw[Snap.hard,QU,abC]
def K7 {α β:Type}:List β->(List β->α)->α
 |[],k=>k []
 |s::l,k=>K7 l λl=>k (s::l)
def abE {α β:Type}:∀(l:List β) (k:List β->α),K7 l k=k l
 |[],_=>rfl
 |s::l,k=>by rw[K7,abE l]
def Fg {α β:Type}:List (List β)->(List (List β)->α)->α
 |[],k=>k []
 |s::l,k=>K7 s λs=>Fg l λl=>k (s::l)
def abD {α β:Type}:∀(l:List (List β)) (k:List (List β)->α),Fg l k=k l
 |[],_=>rfl
 |s::l,k=>by rw[Fg,abE,abD l]
def aG (P:Program){α:Type}(s:Sem α):Prop:=(∃a,∀w,s.run P w=.ok a w)\/∀w,∃h w',s.run P w=.halt h w'
section
variable {P:Program}
def aG.pure {α:Type}(a:α):aG P (Sem.pure a):=.inl ⟨a,λw=>rfl⟩
def aG.pure' {α:Type}(a:α):aG P (Pure.pure a:Sem α):=.inl ⟨a,λw=>rfl⟩
def aG.halt {α:Type}(h:Halt):aG P (Sem.halt h:Sem α):=.inr λw=>⟨h,w,rfl⟩
def aG.bind' {α β:Type}{s:Sem α}{f:α->Sem β}(h:aG P s)(hf:∀a,(∀w,s.run P w=.ok a w)->aG P (f a)):aG P (s>>=f):=by
 rcases h with⟨a,ha⟩|hd
 .rcases hf a ha with⟨b,hb⟩|hd
  .exact .inl ⟨b,λw=>by rw[Sem.run_bind,ha w];exact hb w⟩
  .refine .inr λw=>?_;obtain⟨x,w',e⟩:=hd w;exact⟨x,w',by rw[Sem.run_bind,ha w];exact e⟩
 .refine .inr λw=>?_;obtain⟨x,w',e⟩:=hd w;exact⟨x,w',by rw[Sem.run_bind,e];rfl⟩
def aG.bind {α β:Type}{s:Sem α}{f:α->Sem β}(h:aG P s)(hf:∀a,aG P (f a)):aG P (s>>=f):=h.bind' λa _=>hf a
def cJ {α:Type}(s:Sem α):Prop:=∀P w,∃h w',s.run P w=.halt h w'
def cJ.noW {α:Type}{s:Sem α}(h:cJ s):aG P s:=.inr (h P)
def cJ.halt {α:Type}(h:Halt):cJ (Sem.halt h:Sem α):=λP w=>⟨h,w,rfl⟩
def cJ.of_bind {α β:Type}{s:Sem α}{f:α->Sem β}(hf:∀a,cJ (f a)):cJ (s>>=f):=by
 intro P w;rw[Sem.run_bind];cases e:s.run P w with
 |ok a w'=>exact hf a P w'
 |halt h w'=>exact⟨h,w',rfl⟩
def aG.asBool (v:Value):aG P (Go.asBool v):=by
 cases v<;>first|exact .pure _|exact .halt _
def aG.asIntOf (v:Value):aG P (Go.asIntOf v):=by
 unfold Go.asIntOf;split<;>first|exact .pure _|exact .halt _
def aG.sureAddr (v:Value):aG P (Instr.sureAddr v):=by
 unfold Instr.sureAddr;split<;>first|exact .pure _|exact .halt _
def aG.prog:aG P Go.program:=.inl ⟨P,λw=>rfl⟩
def aG.underlying (t:TypeId):aG P (Go.underlying t):=by
 unfold Go.underlying;refine .bind .prog λp=>?_;split<;>first|exact .pure _|exact .halt _
def aG.sizeOf (t:TypeId):aG P (Go.sizeOf t):=by
 unfold Go.sizeOf Go.typeInfo;refine .bind (.bind .prog λp=>?_) λ_=>.pure _;split<;>first|exact .pure _|exact .halt _
def cJ.runtimePanic {α:Type}(e:RuntimeError):cJ (Go.runtimePanic e:Sem α):=by
 unfold Go.runtimePanic;refine .of_bind λp=>?_;cases e<;>first|exact .halt _|exact .of_bind λ_=>.halt _|exact .of_bind λ_=>.of_bind λ_=>.halt _
def cJ.boundsPanic {α:Type}(k:IntKind)(x y:Int)(c:BoundsCode):cJ (Go.boundsPanic k x y c:Sem α):=by
 unfold Go.boundsPanic;dsimp only;split<;>exact .of_bind λ_=>.runtimePanic _
def aG.indexAt (t:TypeId)(x i:Value):aG P (Instr.indexAt t x i):=by
 unfold Instr.indexAt
 repeat' (first|(first|exact aG.pure _|exact aG.pure' _|exact aG.halt _|exact cJ.noW (cJ.boundsPanic _ _ _ _)|exact cJ.noW (cJ.runtimePanic _)|exact aG.prog|exact aG.underlying _|exact aG.sizeOf _|exact aG.asIntOf _|exact aG.sureAddr _|exact aG.asBool _)|(refine aG.bind ?_ λ_=>?_)|dsimp only|split)
def aG.sliceBound (x:Value)(y:Nat)(c:BoundsCode):aG P (Instr.sliceBound x y c):=by
 unfold Instr.sliceBound
 repeat' (first|(first|exact aG.pure _|exact aG.pure' _|exact aG.halt _|exact cJ.noW (cJ.boundsPanic _ _ _ _)|exact cJ.noW (cJ.runtimePanic _)|exact aG.prog|exact aG.underlying _|exact aG.sizeOf _|exact aG.asIntOf _|exact aG.sureAddr _|exact aG.asBool _)|(refine aG.bind ?_ λ_=>?_)|dsimp only|split)
def aG.sliceBounds (b:Bool)(n m:Nat)(lo hi mx:Option Value):aG P (Instr.sliceBounds b n m lo hi mx):=by
 unfold Instr.sliceBounds
 repeat' (first|exact aG.sliceBound _ _ _|(first|exact aG.pure _|exact aG.pure' _|exact aG.halt _|exact cJ.noW (cJ.boundsPanic _ _ _ _)|exact cJ.noW (cJ.runtimePanic _)|exact aG.prog|exact aG.underlying _|exact aG.sizeOf _|exact aG.asIntOf _|exact aG.sureAddr _|exact aG.asBool _)|(refine aG.bind ?_ λ_=>?_)|dsimp only|split)
def aG.asAddr (v:Value):aG P (Go.asAddr v):=by
 unfold Go.asAddr
 repeat' (first|(first|exact aG.pure _|exact aG.pure' _|exact aG.halt _|exact cJ.noW (cJ.boundsPanic _ _ _ _)|exact cJ.noW (cJ.runtimePanic _)|exact aG.prog|exact aG.underlying _|exact aG.sizeOf _|exact aG.asIntOf _|exact aG.sureAddr _|exact aG.asBool _)|(refine aG.bind ?_ λ_=>?_)|dsimp only|split)
def aG.slice (t:TypeId)(x:Value)(lo hi mx:Option Value):aG P (Instr.slice t x lo hi mx):=by
 unfold Instr.slice
 repeat' (first|exact aG.sliceBounds _ _ _ _ _ _|exact aG.asAddr _|(first|exact aG.pure _|exact aG.pure' _|exact aG.halt _|exact cJ.noW (cJ.boundsPanic _ _ _ _)|exact cJ.noW (cJ.runtimePanic _)|exact aG.prog|exact aG.underlying _|exact aG.sizeOf _|exact aG.asIntOf _|exact aG.sureAddr _|exact aG.asBool _)|(refine aG.bind ?_ λ_=>?_)|dsimp only|split)
def aG.sliceAt (t:TypeId)(x:Value)(lo hi mx:Option Value):aG P (Instr.sliceAt t x lo hi mx):=by
 unfold Instr.sliceAt
 repeat' (first|exact aG.sliceBounds _ _ _ _ _ _|exact aG.slice _ _ _ _ _|(first|exact aG.pure _|exact aG.pure' _|exact aG.halt _|exact cJ.noW (cJ.boundsPanic _ _ _ _)|exact cJ.noW (cJ.runtimePanic _)|exact aG.prog|exact aG.underlying _|exact aG.sizeOf _|exact aG.asIntOf _|exact aG.sureAddr _|exact aG.asBool _)|(refine aG.bind ?_ λ_=>?_)|dsimp only|split)
def Wb (P:Program)(s:TypeId)(i:Nat):Bool:=
 match P.underlying s with
 |some (.struct fs)=>(match fs[i]? with
  |some f=>(match P.info? f.type with|some d=> !Nat.beq d.size 0|none=>false)
  |none=>false)
 |_=>false
def aG.fieldAt {s:TypeId}{i:Nat}(h:Wb P s i=true)(a:Value):aG P (Instr.fieldAt s a i):=by
 unfold Instr.fieldAt;refine .bind' (.underlying _) λd hd=>?_;have hu:P.underlying s=some d:=by
  have:=hd default;unfold Go.underlying at this;rw[Sem.run_bind] at this;change Result.andThen (.ok P default) _=_ at this;simp only[Result.andThen_ok] at this;cases hp:P.underlying s with
  |none=>rw[hp] at this;cases this
  |some d'=>
   rw[hp] at this;change Result.ok d' default=_ at this;cases this;rfl
 unfold Wb at h;rw[hu] at h;cases d<;>dsimp only at h ⊢<;>try (first|exact aG.pure _|exact aG.pure' _|exact aG.halt _|exact cJ.noW (cJ.boundsPanic _ _ _ _)|exact cJ.noW (cJ.runtimePanic _)|exact aG.prog|exact aG.underlying _|exact aG.sizeOf _|exact aG.asIntOf _|exact aG.sureAddr _|exact aG.asBool _)
 rename_i fs;cases hf:fs[i]? with
 |none=>dsimp only;(first|exact aG.pure _|exact aG.pure' _|exact aG.halt _|exact cJ.noW (cJ.boundsPanic _ _ _ _)|exact cJ.noW (cJ.runtimePanic _)|exact aG.prog|exact aG.underlying _|exact aG.sizeOf _|exact aG.asIntOf _|exact aG.sureAddr _|exact aG.asBool _)
 |some f=>
  rw[hf] at h;dsimp only at h ⊢;refine .bind (.sureAddr _) λa=>.bind ?_ λ_=>.pure _;unfold Go.fieldPlace;refine .bind' (.sizeOf _) λn hn=>?_;have hz:n≠0:=by
   intro e;have:=hn default;unfold Go.sizeOf Go.typeInfo at this;cases hi:P.info? f.type with
   |none=>rw[hi] at h;cases h
   |some inf=>
    rw[hi] at h;rw[Sem.run_bind,Sem.run_bind] at this;change Result.andThen (Result.andThen (.ok P default) _) _=_ at this;simp only[Result.andThen_ok,hi] at this;change Result.ok inf.size default=_ at this;cases this;dsimp only at h;rw[e] at h;cases h
  rw[if_neg hz]
  (first|exact aG.pure _|exact aG.pure' _|exact aG.halt _|exact cJ.noW (cJ.boundsPanic _ _ _ _)|exact cJ.noW (cJ.runtimePanic _)|exact aG.prog|exact aG.underlying _|exact aG.sizeOf _|exact aG.asIntOf _|exact aG.sureAddr _|exact aG.asBool _)
def GF (P:Program):Op->Bool
 |.move _=>true
 |.assign _=>true
 |.pick ..=>true
 |.fieldAddr s _ i=>Wb P s i
 |.indexAddr ..=>true
 |.slice ..=>true
 |_=>false
def avC {o:Oper}(hp:GF P o.op=true)(O:Operand->Value):(∃v,∀w,(execOp O o).run P w=.ok (.value v) w)\/∀w,∃h w',(execOp O o).run P w=.halt h w':=by
 have key:∀s:Sem Value,aG P s->(∃v,∀w,(do Pure.pure (Next.value (<-s)):Sem Next).run P w=.ok (.value v) w)\/∀w,∃h w',(do Pure.pure (Next.value (<-s)):Sem Next).run P w=.halt h w':=by
  intro s hs;rcases hs with⟨a,ha⟩|hd
  .exact .inl ⟨a,λw=>by rw[Sem.run_bind,ha w];rfl⟩
  .refine .inr λw=>?_;obtain⟨x,w',e⟩:=hd w;exact⟨x,w',by rw[Sem.run_bind,e];rfl⟩
 obtain⟨dst,op,type,pos,after,guard⟩:=o;cases op<;>first|(cases hp;done)|skip
 case move x=>exact .inl ⟨_,λw=>rfl⟩
 case assign x=>exact .inl ⟨_,λw=>rfl⟩
 case pick c a b=>
  have:=key (do Pure.pure (if<-Go.asBool (O c) then O a else O b)) (.bind (.asBool _) λ_=>.pure _);simp only[execOp];rcases aG.asBool (P:=P) (O c) with⟨t,ht⟩|hd
  .exact .inl ⟨_,λw=>by rw[Sem.run_bind,ht w];rfl⟩
  .refine .inr λw=>?_;obtain⟨x,w',e⟩:=hd w;exact⟨x,w',by rw[Sem.run_bind,e];rfl⟩
 case fieldAddr s x i=>exact key _ (.fieldAt hp _)
 case indexAddr t x i=>exact key _ (.indexAt _ _ _)
 case slice t x lo hi mx=>exact key _ (.sliceAt _ _ _ _ _)
def avD {rd:Option Nat}{ops:Array Oper}{i:Nat}{o:Oper}{a:Act}{w:World}{K:Act->World->Prop}(hi:ops[i]?=some o)(hp:GF P o.op=true)
 (h:wpOpIn (FR rd) 0 P ops (λ_ _ _=>False) i K a w):∃v,YieldsFenced P ops o v a/\K (a.put o.dst v) w:=by
 have bz:∀c,o.op≠.defer c:=λc e=>by rw[e] at hp;cases hp
 have Fc:∀w,o.about P w a.eval=none:=λw=>by
  unfold Oper.about;cases ho:o.op<;>first|rfl|(rw[ho] at hp;cases hp)
 unfold wpOpIn at h;rw[hi] at h;dsimp only at h;cases hw:Region.wanted o (yielded ops a.tmps) with
 |false=>
  rw[hw] at h;exact⟨undef,⟨.inr ⟨hw,rfl⟩,Fc⟩,h.2⟩
 |true=>
  rw[hw,if_pos rfl] at h;have h2:=h.2;rw[Oper.semAt_eq _ _ _ bz] at h2;rcases avC hp a.eval with⟨v,hv⟩|hd
  .rw[hv w] at h2;exact⟨v,⟨.inl ⟨hw,hv⟩,Fc⟩,h2⟩
  .obtain⟨x,w',e⟩:=hd w;rw[e] at h2;cases x<;>exact h2.elim
section
variable {F:Fence} {n:Nat} {ops:Array Oper} {Q:Exit->Act->World->Prop} {md:Region.Mode}
def YF.wpOpIn {i:Nat}{o:Oper}{v:Value}{a:Act}(bz:qe o.op=true)(hi:ops[i]?=some o)(hy:YieldsFenced P ops o v a)
 {K:Act->World->Prop} {w:World} (h:K (a.put o.dst v) w):wpOpIn F n P ops Q i K a w:=by
 have kL:∀c,o.op≠.defer c:=λc e=>by rw[e] at bz;cases bz
 unfold Go.wpOpIn;simp only[hi];have Fc:∀f,o.about P w a.eval=some f->F.fn f:=λf hf=>by rw[hy.2 w] at hf;cases hf
 rcases hy.1 with⟨hw,hv⟩|⟨hw,rfl⟩
 .simp only[hw,if_true,Oper.wpIn,Oper.semAt_eq _ _ _ kL,hv w,Oper.uponIn];exact⟨Fc,h⟩
 .simp only[hw,xL,if_false];exact⟨Fc,h⟩
def aBo {j:Nat}{oi oj:Oper}{v:Value}(bz:qe oj.op=true)(hj:ops[j]?=some oj)(QT:oi.apart ops oj=true)
 (hsi:∀cs b,oi.op≠.select cs b) (hsj:∀cs b,oj.op≠.select cs b)
 (hQ:∀c a w,Q (.panic c) (a.put oi.dst v) w->Q (.panic c) a w) {K:Act->World->Prop} {a:Act} {w:World}
 (hy:YieldsFenced P ops oi v a) (h:wpOpIn F n P ops Q j K (a.put oi.dst v) w):
 wpOpIn F n P ops Q j (λa' w'=>YieldsFenced P ops oi v a'/\K (a'.put oi.dst v) w') a w:=by
 have kL:∀c,oj.op≠.defer c:=λc e=>by rw[e] at bz;cases bz
 obtain⟨h1,h2,h3⟩:=Oper.apart_spec QT;have keep:∀(a:Act),YieldsFenced P ops oi v a->∀u,YieldsFenced P ops oi v (a.put oj.dst u):=λa hy u=>
  hy.of_same (execOp_put oi hsi a oj.dst u h3) (wanted_put oi a oj.dst u h3) (λw=>about_put oi w a oj.dst u h3)
 have arE:∀d,YieldsFenced P ops oi v {a with defers:=d::a.defers}:=λd=>hy.of_same rfl rfl (λ_=>rfl);unfold Go.wpOpIn at*;simp only[hj] at*;rw[wanted_put oj a oi.dst v h1,about_put oj w a oi.dst v h1] at h;split
 .rename_i hw;simp only[hw,if_true] at h;unfold Oper.wpIn at*;rw[about_put oj w a oi.dst v h1] at h;refine⟨h.1,?_⟩;have h:=h.2;rw[Oper.semAt_eq _ _ _ kL,execOp_put oj hsj a oi.dst v h1] at h;rw[Oper.semAt_eq _ _ _ kL];generalize (execOp a.eval oj).run P w=r at*;cases r with
  |ok x w'=>
   cases x<;>simp only[Oper.uponIn] at h ⊢
   case value u=>exact⟨keep a hy u,by rw[<-Act.put_comm a v u h2];exact h⟩
   case skip=>exact⟨keep a hy _,by rw[<-Act.put_comm a v undef h2];exact h⟩
   case defer d=>
        refine⟨keep _ (arE d) _,?_⟩;rw[<-Act.put_comm _ v undef h2,<-Act.put_defers];exact h
   case enter f args=>
        refine⟨h.1,CallsIn.mono h.2 λe lM he=>?_⟩;cases e with
        |returned u=>exact⟨keep a hy u,by rw[<-Act.put_comm a v u h2];exact he⟩
        |panicked c=>exact hQ _ _ _ he
        |outgrown=>exact he
   case row row args=>exact⟨h.1,RowsIn.mono h.2 λu lM he=>⟨keep a hy u,by rw[<-Act.put_comm a v u h2];exact he⟩⟩
   case round l f tmps assign body=>
        refine⟨h.1,RoundIn.mono h.2 λe lM he=>?_⟩;cases e with
        |returned u=>exact⟨keep a hy u,by rw[<-Act.put_comm a v u h2];exact he⟩
        |panicked c=>exact hQ _ _ _ he
        |outgrown=>exact he
  |halt x w'=>
   cases x<;>simp only[Oper.uponIn] at h ⊢
   case panic u=>exact hQ _ _ _ h
 .rename_i hw;simp only[hw] at h;exact⟨h.1,keep a hy _,by rw[<-Act.put_comm a v undef h2];exact h.2⟩
def aBn {i:Nat}{oi:Oper}{v:Value}(bz:∀(j:Nat) (o:Oper),ops[j]?=some o->qe o.op=true)(hi:ops[i]?=some oi)(Ch:∀(j:Nat) (o:Oper) cs b,ops[j]?=some o->o.op≠.select cs b)
 (hQ:∀c a w,Q (.panic c) (a.put oi.dst v) w->Q (.panic c) a w):
 ∀(fuel:Nat) (listed:Array Bool) (a:Act) (w:World),
  (∀j oj,ops[j]?=some oj->j≠i->listed.getD j true=false->(∀e∈oj.after,Region.binds md e=true->e.on≠i)->oi.apart ops oj=true)->
  i∈Region.ready md ops listed->YieldsFenced P ops oi v a->
  wpAnyIn F n P md ops Q fuel (listed.setIfInBounds i true) (a.put oi.dst v) w->wpAnyIn F n P md ops Q (fuel+1) listed a w:=by
 intro fuel
 induction fuel with
 |zero=>
  intro listed a w _ hr hy H;refine⟨λh=>(by rw[h] at hr;cases hr),λj hj=>?_⟩;by_cases jh:j=i
  .subst jh;exact YF.wpOpIn (bz _ _ hi) hi hy H
  .have:=ready_mono hj jh;rw[H.1] at this;cases this
 |succ fuel ih=>
  intro listed a w oB hr hy H;refine⟨λh=>(by rw[h] at hr;cases hr),λj hj=>?_⟩;by_cases jh:j=i
  .subst jh;exact YF.wpOpIn (bz _ _ hi) hi hy H
  .have h1:=H.2 j (ready_mono hj jh);obtain⟨ab7,oj,sT,aU⟩:=mem_ready.1 hj
   have RA:∀e∈oj.after,Region.binds md e=true->e.on≠i:=λe he hb heq=>by
        have h1:=aU e he hb;have h0:=(mem_ready.1 hr).1;rw[heq] at h1;rcases OJ i listed.size with h'|h'
        .simp[h'] at h0 h1;rw[h0] at h1;cases h1
        .simp[Array.getElem?_eq_none h'] at h1
   have h2:=aBo (bz _ _ sT) sT (oB j oj sT jh ab7 RA) (λcs b=>Ch i oi cs b hi) (λcs b=>Ch j oj cs b sT) hQ hy h1;have apy:∀k ok,ops[k]?=some ok->k≠i->(listed.setIfInBounds j true).getD k true=false->
    (∀e∈ok.after,Region.binds md e=true->e.on≠i)->oi.apart ops ok=true:=λk ok hk hki oL eK=>by
        refine oB k ok hk hki ?_ eK;by_cases Lr:j=k
        .subst Lr;exact ab7
        .rw[getD_set_ne true Lr] at oL;exact oL
   refine wpOpIn_mono (λa' w' h3=>ih (listed.setIfInBounds j true) a' w' apy (ready_mono hr (vP jh)) h3.1 ?_) h2;rw[Array.setIfInBounds_comm _ _ jh];exact h3.2
end
end
def tV (P:Program)(ops:Array Oper):List (Option (List Nat)):=(List.range ops.size).map λi=>match ops[i]? with
 |some oi=>bif GF P oi.op then some ((List.range ops.size).filter λj=> !(Nat.beq j i||(match ops[j]? with|some oj=>(oj.after.toList.any λe=>Region.binds .any e&&Nat.beq e.on i)||oi.apart ops oj|none=>true))) else none
 |none=>none
def DE (bad:List (Option (List Nat)))(E:Nat):List Nat->Option Nat
 |[]=>none
 |i::l=>match bad.getD i none with
  |some b=>bif b.all (aB E) then some i else DE bad E l
  |none=>DE bad E l
def SS (ops:Array Oper):Bool:=ops.toList.all λo=>match o.op with|.select ..=>false|_=>true
def N0 {bad:List (Option (List Nat))}{E:Nat}:∀{l:List Nat} {i:Nat},DE bad E l=some i->i∈l/\∃b,bad.getD i none=some b/\b.all (aB E)=true
 |[],_,h=>by cases h
 |i::l,j,h=>by
  unfold DE at h;split at h
  .rename_i b hb;cases hc:b.all (aB E) with
   |true=>
    rw[hc] at h;cases h;exact⟨dS ..,b,hb,hc⟩
   |false=>
    rw[hc] at h;obtain⟨h1,h2⟩:=N0 h;exact⟨dK _ h1,h2⟩
  .obtain⟨h1,h2⟩:=N0 h;exact⟨dK _ h1,h2⟩
def akK {P:Program}{ops:Array Oper}{i:Nat}{b:List Nat}(h:(tV P ops).getD i none=some b):∃oi,ops[i]?=some oi/\GF P oi.op=true/\
 ∀j oj,ops[j]?=some oj->j≠i->j∉b->(∀e∈oj.after,Region.binds .any e=true->e.on≠i)->oi.apart ops oj=true:=by
 unfold tV at h;rw[aL,cM] at h;by_cases hi:i<ops.size
 .rw[sn hi] at h;simp only[ld,jc] at h;rw[gl hi] at h;dsimp only at h;cases hp:GF P ops[i].op<;>rw[hp] at h<;>simp only[zyy,zyx] at h
  .cases h
  injection h with h
  refine⟨ops[i],gl hi,hp,λj oj hj jh Lq eK=>?_⟩;have ao:j<ops.size:=(gX.1 hj).1;rw[<-h] at Lq;have h2:¬(!(Nat.beq j i||(match ops[j]? with|some oj=>(oj.after.toList.any λe=>Region.binds .any e&&Nat.beq e.on i)||ops[i].apart ops oj|none=>true)))=true:=λhc=>Lq (eg.2 ⟨cu.2 ao,hc⟩);rw[hj,eY jh] at h2;simp only[qE,jb,Bool.not_eq_false,gJ] at h2;rcases h2 with h2|h2
  .obtain⟨e,he,hb⟩:=jA.1 h2;rw[av] at hb;exact absurd (df hb.2) (eK e (by simpa using he) hb.1)
  .exact h2
 .rw[tP (by simpa using hi)] at h;cases h
def F9 (E:Nat)(T:Snap):List (Nat×Snap)->Option (List (Nat×Snap))
 |[]=>some [(E,T)]
 |x::l=>bif Nat.beq x.1 E then(bif x.2.beq T then some (x::l) else none) else(F9 E T l).map (x::·)
def nf (ops:Array Oper)(E:Nat):List Nat:=
 (List.range ops.size).filter λi=> !aB E i&&(match ops[i]? with|some o=>o.after.toList.all λe=> !Region.binds .any e||aB E e.on|none=>false)
def TX (C:Ctx)(ops:Array Oper)(n:Nat)(ids:List Nat)(X:List (List PI))(nc:List (List Nat))(E:Nat)(T:Snap)(i:Nat):Option (Nat×Snap):=
 match ops[i]? with
 |some o=>(qP C (T.stO ids) ops o).bind λr=>
  bif PI.beqs r.2 (X.getD i [])&&(nc.getD i []).all (aB E) then some (Nat.lor E (eh i),⟨xw (mc r.1) r.1 T.rs o.dst.toList,ids.map λj=>jr r.1 (r.1.o j)⟩) else none
 |none=>none
def H4 (one:Nat->Option (Nat×Snap)):List Nat->List (Nat×Snap)->Option (List (Nat×Snap))
 |[],acc=>some acc
 |i::l,acc=>(one i).bind λx=>x.2.hard λT=>(F9 x.1 T acc).bind λacc=>H4 one l acc
def qM (ops:Array Oper)(bad:List (Option (List Nat)))(E:Nat):List Nat:=
 match DE bad E (nf ops E) with
 |some i=>[i]
 |none=>nf ops E
def Gi (ops:Array Oper)(bad:List (Option (List Nat)))(one:Nat->Snap->Nat->Option (Nat×Snap)):List (Nat×Snap)->List (Nat×Snap)->Option (List (Nat×Snap))
 |[],acc=>some acc
 |x::l,acc=>
  match qM ops bad x.1 with
  |[]=>none
  |rs=>(H4 (one x.1 x.2) rs acc).bind λacc=>Gi ops bad one l acc
def HZ (ops:Array Oper)(bad:List (Option (List Nat)))(one:Nat->Snap->Nat->Option (Nat×Snap)):Nat->List (Nat×Snap)->Option Snap
 |0,L=>
  match L with
  |[x]=>bif (List.range ops.size).all (aB x.1) then some x.2 else none
  |_=>none
 |k+1,L=>(Gi ops bad one L []).bind λL=>HZ ops bad one k L
def ac3 {E:Nat}{T:Snap}:∀{l l':List (Nat×Snap)},F9 E T l=some l'->(E,T)∈l'/\∀x,x∈l->x∈l'
 |[],l',h=>by simp only[F9,aZ] at h;subst h;simp
 |x::l,l',h=>by
  simp only[F9] at h;cases hb:Nat.beq x.1 E<;>simp only[hb,zyy,zyx] at h
  .simp only[aD] at h;obtain⟨l2,h2,rfl⟩:=h;obtain⟨h3,h4⟩:=ac3 h2;exact⟨dK _ h3,λy hy=>(cQ.1 hy).elim (λe=>e▸dS ..) λhm=>dK _ (h4 y hm)⟩
  .cases hs:x.2.beq T<;>simp only[hs,zyy,zyx] at h
   .cases h
   .cases h;refine⟨?_,λy hy=>hy⟩;have e1:=df hb;have e2:=Snap.beq_eq _ _ hs;subst e1;subst e2;simp
def aiF {one:Nat->Option (Nat×Snap)}:∀{rs:List Nat} {acc D2:List (Nat×Snap)},H4 one rs acc=some D2->(∀x,x∈acc->x∈D2)/\∀i,i∈rs->∃x,one i=some x/\x∈D2
 |[],acc,D2,h=>by simp only[H4,aZ] at h;subst h;simp
 |i::rs,acc,D2,h=>by
  simp only[H4,Snap.hard_eq,aA] at h;obtain⟨x,hx,aka,h1,h2⟩:=h;obtain⟨h3,h4⟩:=ac3 h1;obtain⟨h5,h6⟩:=aiF h2;refine⟨λy hy=>h5 y (h4 y hy),λj hj=>?_⟩;rcases cQ.1 hj with e|hm
  .subst e;exact⟨x,hx,h5 _ h3⟩
  .exact h6 j hm
def ado {ops:Array Oper}{bad:List (Option (List Nat))}{one:Nat->Snap->Nat->Option (Nat×Snap)}:∀{L acc L':List (Nat×Snap)},Gi ops bad one L acc=some L'->
 (∀x,x∈acc->x∈L')/\∀x,x∈L->qM ops bad x.1≠[]/\∀i,i∈qM ops bad x.1->∃y,one x.1 x.2 i=some y/\y∈L'
 |[],acc,L',h=>by simp only[Gi,aZ] at h;subst h;simp
 |x::L,acc,L',h=>by
  simp only[Gi] at h;split at h
  .cases h
  .rename_i aF;simp only[aA] at h;obtain⟨aka,h1,h2⟩:=h;obtain⟨h3,h4⟩:=aiF h1;obtain⟨h5,h6⟩:=ado h2;refine⟨λy hy=>h5 y (h3 y hy),λy hy=>?_⟩;rcases cQ.1 hy with e|hm
   .subst e;refine⟨λe=>aF e,λi hi=>?_⟩;obtain⟨z,hz,hm⟩:=h4 i hi;exact⟨z,hz,h5 z hm⟩
   .exact h6 y hm
def fj (X:List (List PI))(l:List Nat)(E:Nat):List PI:=l.flatMap λi=>bif aB E i then[] else X.getD i []
def VY {X:List (List PI)}{E E':Nat}:∀(l:List Nat),(∀i,i∈l->aB E i=aB E' i)->fj X l E=fj X l E'
 |[],_=>rfl
 |i::l,h=>by
  have ih:=VY (X:=X) l λj hj=>h j (dK _ hj);unfold fj at ih ⊢;simp only[xQ];rw[ih,h i (dS ..)]
def Foot.comm_each {a b:List PI}(h:(jf a).comm (jf b)=true):∀p q,p∈a->q∈b->Comm p q:=by
 simp only[Foot.comm,av] at h;obtain⟨h1,h2,h3,h4,h5,h6⟩:=h;intro p q hp hq;obtain⟨p1,p2,p3,p4⟩:=abf hp;obtain⟨q1,q2,q3,q4⟩:=abf hq;exact⟨λt x y=>Sy h1 (p1 t x) (q1 t y),λt x y=>Sy h2 (p1 t x) (q3 t y),λt x y=>Sy h3 (q1 t x) (p3 t y),λt x y=>O1 h4 (p2 t x) (q2 t y),λt x y=>O1 h5 (p2 t x) (q4 t y),λt x y=>O1 h6 (q2 t x) (p4 t y)⟩
def rA (X:List (List PI))(N:Nat):List (List Nat):=
 (List.range N).map λi=>(List.range i).filter λj=> !(jf (X.getD j [])).comm (jf (X.getD i []))
def j5 (E i j:Nat):aB (Nat.lor E (eh i)) j=(aB E j||Nat.beq i j):=by
 rw[fS]
 congr 1
 rw[ua];show(1<<<i).testBit j=_;rw[Nat.testBit_shiftLeft];by_cases h:i=j
 .subst h;simp
 .have h1:Nat.beq i j=false:=eY h;rw[h1];by_cases h2:i<=j
  .have:j-i≠0:=by omega
   cases hk:j-i with
   |zero=>omega
   |succ k=>
    have:(1:Nat).testBit (k+1)=false:=by simp[Nat.testBit_succ]
    simp[this]
  .simp[h2]
def ah9 {X:List (List PI)}{N E i:Nat}(hi:i<N)(hb:aB E i=false)(dh:((rA X N).getD i []).all (aB E)=true)(Z:aW)(O:Env):
 PI.runs Z (fj X (List.range N) E) O=(PI.runs Z (X.getD i []) O).bind (PI.runs Z (fj X (List.range N) (Nat.lor E (eh i)))):=by
 obtain⟨l1,l2,hl⟩:=ZK (cu.2 hi);have hp:=List.pairwise_lt_range (n:=N);rw[hl,List.pairwise_append] at hp;obtain⟨_,fb,RK⟩:=hp;rw[ZT] at fb;have lt1:∀j,j∈l1->j<i:=λj hj=>RK j hj i (dS ..);have lt2:∀j,j∈l2->i<j:=λj hj=>fb.1 j hj;have e0:∀E,fj X (l1++i::l2) E=fj X l1 E++((bif aB E i then[] else X.getD i [])++fj X l2 E):=λE=>by simp[fj]
 have e1:fj X l1 (Nat.lor E (eh i))=fj X l1 E:=VY l1 λj hj=>by
  rw[j5,eY (by have:=lt1 j hj;omega),se]
 have e2:fj X l2 (Nat.lor E (eh i))=fj X l2 E:=VY l2 λj hj=>by
  rw[j5,eY (by have:=lt2 j hj;omega),se]
 have e3:aB (Nat.lor E (eh i)) i=true:=by rw[j5,iK,px]
 rw[hl,e0,e0,e1,e2,e3,hb];simp only[zyy,zyx,vO]
 have ape:PI.runs Z (fj X l1 E++X.getD i [])=PI.runs Z (X.getD i []++fj X l1 E):=funext λO=>PI.comms _ _ (λp q hp hq=>by
  unfold fj at hp;obtain⟨j,hj,hp⟩:=nq.1 hp;cases q8:aB E j<;>simp only[q8,zyy,zyx] at hp
  case true=>cases hp
  have hc:(jf (X.getD j [])).comm (jf (X.getD i []))=true:=by
   cases jH:(jf (X.getD j [])).comm (jf (X.getD i [])) with
   |true=>rfl
   |false=>
    have rh:(rA X N).getD i []=(List.range i).filter λj=> !(jf (X.getD j [])).comm (jf (X.getD i [])):=by
     unfold rA;rw[aL,cM,sn hi];rfl
    rw[rh] at dh;have:=bT.1 dh j (eg.2 ⟨cu.2 (lt1 j hj),by rw[jH];rfl⟩);rw[q8] at this;cases this
  exact Foot.comm_each hc p q hp hq) O
 rw[<-sm,qv,ape];have:=qv (Z:=Z) (a:=X.getD i []) (b:=fj X l1 E) (O:=O);rw[this,Option.bind_assoc]
 congr 1
 funext ρ1;rw[qv]
def fP (C:Ctx)(ops:Array Oper):List Nat->St->Option (List (List PI))
 |[],_=>some []
 |i::l,S=>
  match ops[i]? with
  |some o=>(qP C S ops o).bind λr=>(fP C ops l r.1).map λq=>r.2::q
  |none=>none
def abn (ops:Array Oper):Bool:=(List.range ops.size).all λi=>match ops[i]? with
 |some o=>(match o.guard with|some (j,_)=>Nat.blt j i|none=>true)
 |none=>true
def BW (ops:Array Oper):Bool:=ops.toList.all λo=>match o.guard with
 |some (j,_)=>o.after.toList.any λe=>Region.binds .any e&&Nat.beq e.on j
 |none=>true
def bQ:Operand->List Nat
 |.tmp t=>[t]
 |_=>[]
def DH:Option Operand->List Nat
 |some x=>bQ x
 |none=>[]
def mP:Op->List Nat
 |.move x=>bQ x
 |.assign x=>bQ x
 |.unOp _ _ x=>bQ x
 |.convert _ _ x=>bQ x
 |.load _ x=>bQ x
 |.fieldAddr _ x _=>bQ x
 |.field _ x _=>bQ x
 |.extract x _=>bQ x
 |.nilCheck x=>bQ x
 |.pick c x y=>bQ c++bQ x++bQ y
 |.binOp _ _ x y _=>bQ x++bQ y
 |.indexAddr _ x i=>bQ x++bQ i
 |.index _ x i=>bQ x++bQ i
 |.lookup _ m k _=>bQ m++bQ k
 |.slice _ x lo hi _=>bQ x++DH lo++DH hi
 |.build _ ps=>ps.toList.flatMap λp=>bQ p.2
 |.call c=>(match c.callee with|.value x=>bQ x|_=>[])++c.args.toList.flatMap bQ
 |.store _ x v=>bQ x++bQ v
 |.mapUpdate _ m k v=>bQ m++bQ k++bQ v
 |_=>[]
def KN (ops:Array Oper)(o:Oper):List Nat:=
 match o.guard with
 |some (j,_)=>(match(ops[j]?).bind (·.dst) with|some t=>[t]|none=>[])
 |none=>[]
def St.withR (S:St)(f:Nat->Sh):St:=⟨f,S.o,S.ver⟩
section
variable {C:Ctx} {S:St} {f:Nat->Sh} {gs:List (Nat×Bool)} {dst:Nat}
def Dz {t:Nat}(h:f t=S.r t):lK (S.withR f) gs t=lK S gs t:=by
 have e:(S.withR f).r t=S.r t:=h;unfold lK;rw[e]
def vy {x:Operand}(h:∀t,t∈bQ x->f t=S.r t):fJ (S.withR f) gs x=fJ S gs x:=by
 cases x<;>first|rfl|exact Dz (h _ (su.2 rfl))
def P8:∀(l:List Sh) (j:PE) (i:Nat),sE (S.withR f) j l i=sE S j l i
 |[],_,_=>rfl
 |s::l,j,i=>by simp only[sE];rw[P8 l j (i+1)];rfl
def OX:∀(l:List AgC),xW (S.withR f) l=xW S l
 |[]=>rfl
 |.dat _::l=>OX l
 |.obj j ver::l=>by simp only[xW];rw[OX l];rfl
def Z3:∀(l:List Sh),vR (S.withR f) l=vR S l
 |[]=>rfl
 |s::l=>by simp only[vR];rw[Z3 l];rfl
def eN {x:Operand}(h:∀t,t∈bQ x->f t=S.r t):use C (S.withR f) gs x=use C S gs x:=by
 cases x<;>first|rfl|(unfold use;simp only;rw[Dz (h _ (su.2 rfl))];simp only[P8];rfl)
def ajB {x:Operand}(h:∀t,t∈bQ x->f t=S.r t):view C (S.withR f) gs x=view C S gs x:=by
 unfold view;rw[eN h];cases x<;>first|rfl|(simp only;rw[Dz (h _ (su.2 rfl))];rfl)
def Zn:∀{xs:List Operand},(∀t,t∈xs.flatMap bQ->f t=S.r t)->lL C (S.withR f) gs xs=lL C S gs xs
 |[],_=>rfl
 |x::xs,h=>by
  simp only[lL]
  rw[eN λt ht=>h t (nq.2 ⟨x,dS ..,ht⟩),Zn λt ht=>by
   obtain⟨y,hy,uR⟩:=nq.1 ht;exact h t (nq.2 ⟨y,dK _ hy,uR⟩)]
def aBc {x:Option Operand}(h:∀t,t∈DH x->f t=S.r t):Ic C (S.withR f) gs x=Ic C S gs x:=by
 cases x with
 |none=>rfl
 |some x=>exact eN h
def aBa {e:PE}{x:Option Operand}(h:∀t,t∈DH x->f t=S.r t):Ib C (S.withR f) gs e x=Ib C S gs e x:=by
 cases x with
 |none=>rfl
 |some x=>exact eN h
def th:∀{xs:List Operand},(∀t,t∈xs.flatMap bQ->f t=S.r t)->cd (S.withR f) gs xs=cd S gs xs
 |[],_=>rfl
 |x::xs,h=>by
  simp only[cd]
  rw[vy λt ht=>h t (nq.2 ⟨x,dS ..,ht⟩),th λt ht=>by
   obtain⟨y,hy,uR⟩:=nq.1 ht;exact h t (nq.2 ⟨y,dK _ hy,uR⟩)]
  simp only[OX];rfl
def kp {P:Nat->Prop}{a b:List Nat}(h:∀t,t∈a++b->P t):(∀t,t∈a->P t)/\∀t,t∈b->P t:=
 ⟨λt ht=>h t (kB _ ht),λt ht=>h t (la _ ht)⟩
def agj {x:Operand}(h:∀t,t∈bQ x->f t=S.r t):rD C (S.withR f) gs dst x=rD C S gs dst x:=by
 unfold rD;rw[eN h];cases x<;>first|rfl|(simp only;rw[Dz (h _ (su.2 rfl))])
def auU {c x y:Operand}(h:∀t,t∈bQ c++bQ x++bQ y->f t=S.r t):CP C (S.withR f) gs dst c x y=CP C S gs dst c x y:=by
 obtain⟨h1,h3⟩:=kp h;obtain⟨h1,h2⟩:=kp h1;unfold CP;cases c<;>first|rfl|skip
 simp only;rw[Dz (h1 _ (su.2 rfl)),eN h2,eN h3]
def auu {op:BinOp}{T:TypeId}{x y:Operand}(h:∀t,t∈bQ x++bQ y->f t=S.r t):CE C (S.withR f) gs dst op T x y=CE C S gs dst op T x y:=by
 obtain⟨h1,h2⟩:=kp h;unfold CE;rw[eN h1,eN h2]
def auZ {op:UnOp}{x:Operand}(h:∀t,t∈bQ x->f t=S.r t):CR C (S.withR f) gs dst op x=CR C S gs dst op x:=by unfold CR;rw[eN h]
def auz {s d:TypeId}{x:Operand}(h:∀t,t∈bQ x->f t=S.r t):CG C (S.withR f) gs dst s d x=CG C S gs dst s d x:=by unfold CG;rw[eN h]
def auM {T:TypeId}{x:Operand}(h:∀t,t∈bQ x->f t=S.r t):CM C (S.withR f) gs dst T x=CM C S gs dst T x:=by unfold CM;rw[ajB h]
def agh {b:Bool}{x y:Operand}(h:∀t,t∈bQ x++bQ y->f t=S.r t):zw C (S.withR f) gs dst b x y=zw C S gs dst b x y:=by
 obtain⟨h1,h2⟩:=kp h;unfold zw;rw[eN h1,eN h2]
def auO {T:TypeId}{x:Operand}(h:∀t,t∈bQ x->f t=S.r t):uX C (S.withR f) gs dst T x=uX C S gs dst T x:=by
 unfold uX;rw[vy h,eN h];simp only[P8,Z3];rfl
def auD {T:TypeId}{x:Operand}{i:Nat}(h:∀t,t∈bQ x->f t=S.r t):CJ C (S.withR f) gs dst T x i=CJ C S gs dst T x i:=by
 unfold CJ;rw[vy h,eN h];rfl
def auF {T:TypeId}{x:Operand}{i:Nat}(h:∀t,t∈bQ x->f t=S.r t):CI C (S.withR f) gs dst T x i=CI C S gs dst T x i:=by unfold CI;rw[eN h]
def auI {T:TypeId}{x i:Operand}(h:∀t,t∈bQ x++bQ i->f t=S.r t):CL C (S.withR f) gs dst T x i=CL C S gs dst T x i:=by
 obtain⟨h1,h2⟩:=kp h;unfold CL;rw[eN h1,eN h2,vy h1];rfl
def auK {T:TypeId}{x i:Operand}(h:∀t,t∈bQ x++bQ i->f t=S.r t):CK C (S.withR f) gs dst T x i=CK C S gs dst T x i:=by
 obtain⟨h1,h2⟩:=kp h;unfold CK;rw[eN h1,eN h2]
def auB {x:Operand}{i:Nat}(h:∀t,t∈bQ x->f t=S.r t):CH C (S.withR f) gs dst x i=CH C S gs dst x i:=by unfold CH;rw[eN h]
def auQ {T:TypeId}{m k:Operand}{ok:Bool}(h:∀t,t∈bQ m++bQ k->f t=S.r t):CN C (S.withR f) gs dst T m k ok=CN C S gs dst T m k ok:=by
 obtain⟨h1,h2⟩:=kp h;unfold CN;rw[ajB h1,eN h2]
def auX {T:TypeId}{x:Operand}{lo hi mx:Option Operand}(h:∀t,t∈bQ x++DH lo++DH hi->f t=S.r t):CQ C (S.withR f) gs dst T x lo hi mx=CQ C S gs dst T x lo hi mx:=by
 obtain⟨h1,h3⟩:=kp h;obtain⟨h1,h2⟩:=kp h1;unfold CQ;rw[eN h1];simp only[aBc h2,aBa h3]
def aak {zs:List Value}{parts:List (Nat×Operand)}(h:∀t,t∈(parts.flatMap λp=>bQ p.2)->f t=S.r t):∀(fs:List Field) (i off:Nat),lU C (S.withR f) gs zs parts fs i off=lU C S gs zs parts fs i off
 |[],_,_=>rfl
 |g::fs,i,off=>by
  simp only[lU,aak h fs];cases hp:parts.find? (λp=>Nat.beq p.1 i) with
  |none=>rfl
  |some p=>
   have hu:∀ft,uY C (S.withR f) gs ft p.2=uY C S gs ft p.2:=λft=>by
        unfold uY;rw[eN λt ht=>h t (nq.2 ⟨p,vN hp,ht⟩),vy λt ht=>h t (nq.2 ⟨p,vN hp,ht⟩)];rfl
   simp only[hu]
def auw {T:TypeId}{ps:List (Nat×Operand)}(h:∀t,t∈(ps.flatMap λp=>bQ p.2)->f t=S.r t):CF C (S.withR f) gs dst T ps=CF C S gs dst T ps:=by
 unfold CF;simp only[aak h];split
 .rfl
 .split
  .split
   .rename_i x y;rw[eN (x:=x) λt ht=>h t (by simp[ht]),eN (x:=y) λt ht=>h t (by simp[ht])]
   .rfl
  .rfl
 .rfl
def auS {x:Operand}(h:∀t,t∈bQ x->f t=S.r t):CO C (S.withR f) gs dst x=CO C S gs dst x:=by
 unfold CO;rw[eN h];cases x<;>first|rfl|(simp only;rw[Dz (h _ (su.2 rfl))];rfl)
def oy:Op->Bool
 |.move _|.pick ..|.binOp ..|.unOp ..|.convert ..|.load ..|.fieldAddr ..|.field ..|.indexAddr ..|.index ..|.extract ..|.lookup ..|.slice ..|.build ..|.nilCheck _|.makeInterface ..|.call _=>true
 |_=>false
def agl {op:Op}(hq:oy op=true)(h:∀t,t∈mP op->f t=S.r t):qf C (S.withR f) gs dst op=qf C S gs dst op:=by
 cases op<;>simp only[oy] at hq<;>simp only[mP] at h<;>simp only[qf]
 case move=>exact agj h
 case pick=>exact auU h
 case binOp=>exact auu h
 case unOp=>exact auZ h
 case convert=>exact auz h
 case load=>exact auO h
 case fieldAddr=>exact auD h
 case field=>exact auF h
 case indexAddr=>exact auI h
 case index=>exact auK h
 case extract=>exact auB h
 case lookup=>exact auQ h
 case slice=>exact auX h
 case build=>exact auw h
 case nilCheck=>exact auS h
 case call c=>
  obtain⟨_,h2⟩:=kp h;split
  .rename_i x T _ ha _;exact auM λt ht=>h2 t (by rw[ha];simp[ht])
  .rename_i x y _ ha;exact agh λt ht=>h2 t (by rw[ha];simpa using ht)
  .rename_i x y _ ha;exact agh λt ht=>h2 t (by rw[ha];simpa using ht)
  .rfl
 all_goals (cases hq;done)
def avw {op:Op}(h:∀t,t∈mP op->f t=S.r t)(hq:oy op=true):u9 (S.withR f) gs op=u9 S gs op:=by
 cases op<;>simp only[oy] at hq<;>simp only[mP] at h<;>simp only[u9]
 case build T ps=>exact th λt ht=>h t (by
  obtain⟨x,hx,Sj⟩:=nq.1 ht;obtain⟨p,hp,rfl⟩:=fq.1 hx;exact nq.2 ⟨p,hp,Sj⟩)
 case pick c x y=>
  obtain⟨h1,h3⟩:=kp h;obtain⟨h1,h2⟩:=kp h1;refine th λt ht=>?_;simp only[xQ,ZO,nm,dR] at ht;exact ht.elim (h2 t) (h3 t)
 case slice T x lo hi mx=>
  obtain⟨h1,h3⟩:=kp h;obtain⟨h1,h2⟩:=kp h1;exact th λt ht=>h1 t (by simpa using ht)
 all_goals first|rfl|(cases hq;done)
def avx {op:Op}(h:∀t,t∈mP op->f t=S.r t)(hq:oy op=true):pre C (S.withR f) gs op=pre C S gs op:=by
 have wE:=hq;cases op<;>simp only[oy] at hq<;>simp only[pre,avw h wE]
 case load T x=>simp only[mP] at h;rw[vy h];rfl
 all_goals first|(cases hq;done)|skip
def aoB {ops:Array Oper}{o:Oper}(h:∀t,t∈KN ops o->f t=S.r t):q6 (S.withR f) ops o=q6 S ops o:=by
 unfold q6;cases hg:o.guard with
 |none=>rfl
 |some jw=>
  obtain⟨j,want⟩:=jw;simp only;cases ht:(ops[j]?).bind (·.dst) with
  |none=>rfl
  |some t=>
   simp only;have:(S.withR f).r t=S.r t:=h t (by unfold KN;rw[hg];simp[ht]);rw[this]
end
def w7 (C:Ctx)(c:Callee):Bool:=
 match c with
 |.value (.func f)=>(match C.sig f with|some s=>s.res.pure|none=>false)
 |_=>false
def E1 (C:Ctx)(S:St)(gs:List (Nat×Bool))(dst:Nat)(op:Op):Option (Sh×List PI):=
 match op with
 |.assign x=>
  match gs with
  |[]=>bif C.fr.any (Nat.beq dst)&&(cd S [] [x]).isEmpty then(match rD C S [] dst x with|some r=>bif oO r.1 then some r else none|none=>none) else none
  |_=>none
 |.call c=>
  match qf C S gs dst (.call c) with
  |some r=>bif td r.1&&kf gs (some dst) r.2 then some (ke gs r.1,r.2) else none
  |none=>
   bif (cd S gs c.args.toList).isEmpty||w7 C c.callee then
    match c.callee with
    |.value (.func f)=>(match qT C S gs dst f c.args.toList with|some r=>bif kf gs (some dst) r.2.2 then some (ke gs r.2.1,r.2.2) else none|none=>none)
    |.value x=>(match pI C S gs dst x c.args.toList with|some r=>bif kf gs (some dst) r.2.2 then some (ke gs r.2.1,r.2.2) else none|none=>none)
    |_=>none
   else none
 |op=>bif oy op&&(pre C S gs op).isEmpty then(match qf C S gs dst op with|some r=>bif td r.1&&kf gs (some dst) r.2 then some (ke gs r.1,r.2) else none|none=>none) else none
def E2 (C:Ctx)(S:St)(gs:List (Nat×Bool))(op:Op):Option (List PI):=
 match op,gs with
 |.store T x v,[]=>
  match fJ S [] x with
  |.eptr ..=>bif (cd S [] [v]).isEmpty then(vY C S T x v).map (·.2) else none
  |_=>none
 |.mapUpdate T m k v,[]=>bif (cd S [] [k,v]).isEmpty then(uc C S T m k v).map (·.2) else none
 |.panic _,[]=>some [.chk (.nt (.con (.bool true)))]
 |_,_=>none
def v8 (C:Ctx)(S:St)(ops:Array Oper)(o:Oper):Option (Sh×List PI):=
 match C.yl with
 |some _=>none
 |none=>(q6 S ops o).bind λgs=>
  match o.dst with
  |some dst=>E1 C S gs dst o.op
  |none=>(E2 C S gs o.op).map λl=>(.none,l)
def pq (S:St)(o:Oper)(s:Sh):St:=match o.dst with|some d=>S.setR d s|none=>S
section
variable {C:Ctx} {S:St} {f:Nat->Sh} {gs:List (Nat×Bool)} {dst:Nat}
def aok (j:Nat):(S.withR f).fz j=(S.fz j).withR f:=by
 unfold St.fz St.withR;simp only;split<;>rfl
def abh:∀(js:List Nat) {S:St},(S.withR f).fzs js=(S.fzs js).withR f
 |[],_=>rfl
 |j::js,S=>by
  show((S.withR f).fz j).fzs js=((S.fz j).fzs js).withR f;rw[aok,abh js]
def alW {g:Nat}{xs:List Operand}(h:∀t,t∈xs.flatMap bQ->f t=S.r t):
 (match qT C (S.withR f) gs dst g xs with|some r=>bif kf gs (some dst) r.2.2 then some (ke gs r.2.1,r.2.2) else none|none=>none)=(match qT C S gs dst g xs with|some r=>bif kf gs (some dst) r.2.2 then some (ke gs r.2.1,r.2.2) else none|none=>none):=by
 have ho:=th (gs:=gs) h;unfold qT;generalize (C.sig g).bind (Ez C.fr dst)=q;cases q with
 |none=>rfl
 |some s=>
  simp only[lb];cases s.mode<;>first|rfl|skip
  simp only[ho,abh];rw[Zn (S:=S.fzs (cd S gs xs)) (f:=f) (λt ht=>by rw[(pO _ S).2];exact h t ht)];cases lL C (S.fzs (cd S gs xs)) gs xs with
  |none=>rfl
  |some u=>
   simp only[lb];cases Ty.subs u.1 s.args<;>rfl
def alN {x:Operand}{xs:List Operand}(hx:∀t,t∈bQ x->f t=S.r t)(h:∀t,t∈xs.flatMap bQ->f t=S.r t)(he:(cd S gs xs).isEmpty=true):
 (match pI C (S.withR f) gs dst x xs with|some r=>bif kf gs (some dst) r.2.2 then some (ke gs r.2.1,r.2.2) else none|none=>none)=(match pI C S gs dst x xs with|some r=>bif kf gs (some dst) r.2.2 then some (ke gs r.2.1,r.2.2) else none|none=>none):=by
 have ho:=th (gs:=gs) h;have rf:=vK.1 he;unfold pI;rw[eN hx];cases use C S gs x with
 |none=>rfl
 |some y=>
  obtain⟨ty,e⟩:=y;cases ty with
  |fn aa r=>
   simp only;cases nI aa r with
   |some _=>rfl
   |none=>
    simp only[ho,rf,St.fzs,ZQ,Zn h];cases lL C S gs xs with
    |none=>rfl
    |some u=>
     simp only[lb];cases Ty.subs u.1 aa<;>rfl
  |_=>rfl
def amW {op:Op}(h:∀t,t∈mP op->f t=S.r t):E1 C (S.withR f) gs dst op=E1 C S gs dst op:=by
 have other:∀op,(∀t,t∈mP op->f t=S.r t)->(bif oy op&&(pre C (S.withR f) gs op).isEmpty then(match qf C (S.withR f) gs dst op with|some r=>bif td r.1&&kf gs (some dst) r.2 then some (ke gs r.1,r.2) else none|none=>none) else none)=
  (bif oy op&&(pre C S gs op).isEmpty then(match qf C S gs dst op with|some r=>bif td r.1&&kf gs (some dst) r.2 then some (ke gs r.1,r.2) else none|none=>none) else none):=by
  intro op h;cases hq:oy op with
  |false=>rfl
  |true=>rw[avx h hq,agl hq h]
 unfold E1;split
 .rename_i x;simp only[mP] at h;rw[agj h,th (xs:=[x]) λt ht=>h t (by simpa using ht)]
 .rename_i c;have h':=h;simp only[mP] at h';obtain⟨h1,h2⟩:=kp h';rw[agl (op:=.call c) rfl h,th h2];split
  .rfl
  .cases he:(cd S gs c.args.toList).isEmpty||w7 C c.callee with
   |false=>rfl
   |true=>
    simp only[zyy];split
    .exact alW h2
    .rename_i x hx hc;have hp:w7 C c.callee=false:=by
         rw[hc];unfold w7;cases x<;>first|rfl|exact absurd rfl (hx _)
     exact alN (λt ht=>h1 t (by rw[hc];exact ht)) h2 (by rw[hp,se] at he;exact he)
    .rfl
 .exact other _ h
def amX {op:Op}(h:∀t,t∈mP op->f t=S.r t):E2 C (S.withR f) gs op=E2 C S gs op:=by
 unfold E2;split
 .rename_i T x v;simp only[mP] at h;obtain⟨h1,h2⟩:=kp h;rw[vy h1,th (xs:=[v]) λt ht=>h2 t (by simpa using ht)];split
  .rename_i j ver size off gz;cases(cd S [] [v]).isEmpty with
   |false=>rfl
   |true=>
    simp only[zyy];unfold vY;rw[vy h1,eN h2,gz];simp only;have eo:(S.withR f).o=S.o:=rfl;have ev:(S.withR f).ver=S.ver:=rfl;rw[eo,ev];cases C.P.info? T with
    |none=>rfl
    |some inf=>
     simp only;cases Nat.beq ver (S.ver j) with
     |false=>rfl
     |true=>
      simp only[zyy];cases S.o j with
      |row T' e0=>
       cases use C S [] v with
       |none=>cases e0<;>rfl
       |some y=>
        obtain⟨t,e⟩:=y;cases e0<;>simp only<;>(generalize (_&&_:Bool)=b;cases b<;>rfl)
      |_=>rfl
  .rfl
 .rename_i T m k v;simp only[mP] at h;obtain⟨h1,h3⟩:=kp h;obtain⟨h1,h2⟩:=kp h1
  rw[th (xs:=[k,v]) λt ht=>by
   simp only[xQ,ZO,nm,dR] at ht;exact ht.elim (h2 t) (h3 t)]
  cases(cd S [] [k,v]).isEmpty with
  |false=>rfl
  |true=>
   simp only[zyy];unfold uc;rw[vy h1,eN h2,eN h3];have eo:(S.withR f).o=S.o:=rfl;have ev:(S.withR f).ver=S.ver:=rfl;rw[eo,ev];cases C.P.underlying T with
   |none=>rfl
   |some desc=>
    cases desc with
    |map K E=>
     cases fJ S [] m with
     |obj j ver=>
      simp only;cases Nat.beq ver (S.ver j) with
      |false=>rfl
      |true=>
       simp only[zyy];cases S.o j with
       |mp kt et=>
        cases use C S [] k with
        |none=>rfl
        |some y=>
         cases use C S [] v with
         |none=>rfl
         |some z=>
          obtain⟨tk,ek⟩:=y;obtain⟨tv,ev⟩:=z;simp only;generalize (_&&_:Bool)=b;cases b<;>rfl
       |_=>rfl
     |_=>rfl
    |_=>rfl
 .rfl
 .rfl
def amZ {ops:Array Oper}{o:Oper}(h:∀t,t∈mP o.op++KN ops o->f t=S.r t):v8 C (S.withR f) ops o=v8 C S ops o:=by
 obtain⟨h1,h2⟩:=kp h;unfold v8;rw[aoB h2];split
 .rfl
 .cases q6 S ops o with
  |none=>rfl
  |some gs=>
   simp only[lb];split
   .exact amW h1
   .rw[amX h1]
def aw5 {S:St}{t:Nat}{s:Sh}(h:S.r t=s)(hs:oO s=true):zX S t t=some (S,[]):=by
 unfold zX;rw[h];cases s<;>first|rfl|cases hs
def amY {ops:Array Oper}{o:Oper}{q:Sh×List PI}(h:v8 C S ops o=some q):qP C S ops o=some (pq S o q.1,q.2):=by
 unfold v8 at h;split at h
 case h_1=>cases h
 rename_i lC;simp only[aA] at h;obtain⟨gs,ei,h⟩:=h;have hY:BH C S ops o=none:=by
  unfold BH;rw[lC];split<;>first|rfl|(rename_i hx;cases hx;done)|(rename_i hx _;cases hx;done)
 have fin:∀{S':St},pre C S gs o.op++rF C S gs o=[]->core C S gs o=some (S',q.2)->kI C (post C S' o) S'=some (S',[])->kf gs o.dst q.2=true->qP C S ops o=some (S',q.2):=by
  intro S' h1 h2 h3 h4;unfold qP BG Ew;rw[hY,ei];simp only[lb,h1,kI,h2,h3,h4,zyy,vO,nm]
 cases hd:o.dst with
 |some dst=>
  simp only[hd] at h;have cA:pq S o q.1=S.setR dst q.1:=by unfold pq;rw[hd]
  rw[cA];unfold E1 at h;split at h
  .rename_i x bV;split at h
   case h_2=>cases h
   cases hb:(C.fr.any (Nat.beq dst)&&(cd S [] [x]).isEmpty)<;>simp only[hb,zyy,zyx] at h
   .cases h
   simp only[av] at hb;split at h
   case h_2=>cases h
   rename_i r hr;cases abN:oO r.1<;>simp only[abN,zyy,zyx] at h
   .cases h
   cases h;have he:=vK.1 hb.2;refine fin ?_ ?_ ?_ rfl
   .rw[bV];unfold rF;rw[bV,hd];simp only[hb.1,he,zyy,pre,u9,vL,nm]
   .unfold core;rw[hd];simp only[bV,qf,hb.1,zyy,hr]
   .unfold post;rw[bV,hd];simp only[kI,Gh.run];rw[aw5 (s:=q.1) (by simp[St.setR,aP]) abN];rfl
  .rename_i c bV;have RN:pre C S gs o.op++rF C S gs o=[]:=by
        rw[bV];unfold rF;rw[bV];simp[pre,u9]
   have lu:∀S':St,kI C (post C S' o) S'=some (S',[]):=λS'=>by
        unfold post;rw[bV];rfl
   split at h
   .rename_i r hr;cases hb:(td r.1&&kf gs (some dst) r.2)<;>simp only[hb,zyy,zyx] at h
    .cases h
    cases h;simp only[av] at hb;refine fin RN ?_ (lu _) (by rw[hd];exact hb.2);unfold core;rw[hd];simp only[bV,hr,hb.1,zyy]
   .rename_i hr;cases he:(cd S gs c.args.toList).isEmpty||w7 C c.callee<;>simp only[he,zyy,zyx] at h
    .cases h
    have sfz:∀b:Bool,(cd S gs c.args.toList).isEmpty=true\/b=true->(bif b then S else S.fzs (cd S gs c.args.toList))=S:=λb hb=>by
     rcases hb with hb|rfl
     .rw[vK.1 hb];cases b<;>rfl
     .rfl
    split at h
    .rename_i f hc;split at h
     case h_2=>cases h
     rename_i r ej;cases hb:kf gs (some dst) r.2.2<;>simp only[hb,zyy,zyx] at h
     .cases h
     cases h;refine fin RN ?_ (lu _) (by rw[hd];exact hb);have hS:r.1=S:=by
      simp only[qT,aA] at ej;obtain⟨s,⟨s0,hs,rn⟩,ej⟩:=ej;split at ej
      case h_2=>cases ej
      simp only[aA] at ej;obtain⟨u,hu,ej⟩:=ej;cases cq:Ty.subs u.1 s.args<;>simp only[cq,zyy,zyx] at ej
      .cases ej
      cases ej;refine sfz _ ?_;have FU:s.res=s0.res:=by
       unfold Ez at rn;split at rn
       .revert rn
        generalize (_&&_:Bool)=b;intro rn;cases b<;>simp only[zyy,zyx,aZ] at rn<;>rw[<-rn]
       .simp only[aZ] at rn;rw[<-rn]
      rw[hc] at he;simp only[w7,hs,gJ] at he;rw[FU];exact he
     unfold core;rw[hd];simp only[bV,hr,hc,ej,hS]
    .rename_i x LF hc;split at h
     case h_2=>cases h
     rename_i r ej;cases hb:kf gs (some dst) r.2.2<;>simp only[hb,zyy,zyx] at h
     .cases h
     cases h;refine fin RN ?_ (lu _) (by rw[hd];exact hb);have hS:r.1=S:=by
      unfold pI at ej;split at ej
      case h_2=>cases ej
      rename_i aa r0 e R5;split at ej
      case h_1=>cases ej
      simp only[aA] at ej;obtain⟨u,hu,ej⟩:=ej;cases cq:Ty.subs u.1 aa<;>simp only[cq,zyy,zyx] at ej
      .cases ej
      cases ej;refine sfz _ (.inl ?_);have hp:w7 C c.callee=false:=by
       rw[hc];unfold w7;cases x<;>first|rfl|exact absurd rfl (LF _)
      rw[hp,se] at he;exact he
     unfold core;rw[hd];simp only[bV,hr,hc];cases x with
     |func f=>exact absurd rfl (LF f)
     |_=>simp only[ej,hS]
    .cases h
  .rename_i hna dh;cases hb:(oy o.op&&(pre C S gs o.op).isEmpty)<;>simp only[hb,zyy,zyx] at h
   .cases h
   simp only[av] at hb;split at h
   case h_2=>cases h
   rename_i r hr;cases cW:(td r.1&&kf gs (some dst) r.2)<;>simp only[cW,zyy,zyx] at h
   .cases h
   cases h;simp only[av] at cW;have dq:rF C S gs o=[]:=by
        unfold rF;split
        .rename_i x t e _;exact absurd e (hna x)
        .rfl
   have lu:∀S':St,kI C (post C S' o) S'=some (S',[]):=λS'=>by
        have:post C S' o=[]:=by
         unfold post;split
         .rename_i x t e _;exact absurd e (hna x)
         .rename_i T t e _;rw[e] at hb;simp[oy] at hb
         .rename_i T x v e;rw[e] at hb;simp[oy] at hb
         .rfl
        rw[this];rfl
   refine fin (by rw[dq,vK.1 hb.2];rfl) ?_ (lu _) (by rw[hd];exact cW.2);unfold core;rw[hd];simp only[hr,cW.1,zyy]
 |none=>
  simp only[hd,aD] at h;obtain⟨l,h,rfl⟩:=h;have cA:pq S o (.none:Sh)=S:=by unfold pq;rw[hd]
  show qP C S ops o=some (pq S o .none,l);rw[cA];have dq:rF C S gs o=[]:=by unfold rF;rw[hd];split<;>first|rfl|(rename_i hx;cases hx)
  unfold E2 at h;split at h
  .rename_i T x v bV;split at h
   case h_2=>cases h
   rename_i j ver size off gz;cases he:(cd S [] [v]).isEmpty<;>simp only[he,zyy,zyx] at h
   .cases h
   simp only[aD] at h;obtain⟨r,hr,rfl⟩:=h;have hS:r.1=S:=by
        unfold vY at hr;split at hr
        case h_2=>cases hr
        rw[gz] at hr;simp only at hr;cases hv:Nat.beq ver (S.ver j)<;>simp only[hv,zyy,zyx] at hr
        .cases hr
        split at hr
        .revert hr;generalize (_&&_:Bool)=b;intro hr;cases b<;>simp only[zyy,zyx] at hr<;>cases hr;rfl
        .revert hr;generalize (_&&_:Bool)=b;intro hr;cases b<;>simp only[zyy,zyx] at hr<;>cases hr;rfl
        .cases hr
   refine fin ?_ ?_ ?_ rfl
   .rw[dq,bV];simp only[pre,u9,gz,vK.1 he,vL,nm]
   .unfold core;rw[hd];simp only[bV,hr];rw[<-hS]
   .unfold post;rw[bV];simp only[gz];rfl
  .rename_i T m k v bV;cases he:(cd S [] [k,v]).isEmpty<;>simp only[he,zyy,zyx] at h
   .cases h
   simp only[aD] at h;obtain⟨r,hr,rfl⟩:=h;have hS:r.1=S:=by
        unfold uc at hr;split at hr
        .rename_i K _ j ver _ _;cases hv:Nat.beq ver (S.ver j)<;>simp only[hv,zyy,zyx] at hr
         .cases hr
         split at hr
         .revert hr;generalize (_&&_:Bool)=b;intro hr;cases b<;>simp only[zyy,zyx] at hr<;>cases hr;rfl
         .cases hr
        .cases hr
   refine fin ?_ ?_ ?_ rfl
   .rw[dq,bV];simp only[pre,u9,vK.1 he,vL,nm]
   .unfold core;rw[hd];simp only[bV,hr];rw[<-hS]
   .unfold post;rw[bV];rfl
  .rename_i x bV;cases h;refine fin ?_ ?_ ?_ rfl
   .rw[dq,bV];rfl
   .unfold core;rw[hd];simp only[bV]
   .unfold post;rw[bV];rfl
  .cases h
end
def gf (ops:Array Oper)(shs:List Sh)(l:List Nat)(f:Nat->Sh):Nat->Sh:=
 l.foldl (λf i=>match(ops[i]?).bind (·.dst) with|some d=>cr f d (shs.getD i .none)|none=>f) f
def BS (C:Ctx)(S:St)(ops:Array Oper):Nat->Option (List (Sh×List PI))
 |0=>some []
 |k+1=>(BS C S ops k).bind λq=>match ops[k]? with
  |some o=>(v8 C (S.withR (gf ops (q.map (·.1)) (List.range k) S.r)) ops o).map λr=>q++[r]
  |none=>none
def dU (ops:Array Oper):Nat->List Nat
 |0=>[]
 |k+1=>dU ops k++[match ops[k]? with
  |some o=>o.after.toList.foldr (λe m=>bif Region.binds .any e then Nat.lor (Nat.lor (eh e.on) ((dU ops k).getD e.on 0)) m else m) 0
  |none=>0]
def ah0 (ops:Array Oper)(o:Oper):List Nat:=mP o.op++KN ops o
def abb (ops:Array Oper)(nc:List (List Nat))(clo:List Nat)(i:Nat):Bool:=
 match ops[i]? with
 |some o=>(nc.getD i []).all (aB (clo.getD i 0))&&(o.after.toList.all λe=> !Region.binds .any e||Nat.blt e.on i)&&
   (ah0 ops o).all λt=>(List.range ops.size).all λj=>match(ops[j]?).bind (·.dst) with
     |some d=> !Nat.beq d t||((Nat.blt j i&&aB (clo.getD i 0) j)||aB (clo.getD j 0) i)
     |none=>true
 |none=>false
def KI (ops:Array Oper)(i:Nat):Bool:=match ops[i]? with|some o=>o.after.toList.all λe=> !Region.binds .any e||Nat.blt e.on i|none=>false
def E3 (ops:Array Oper)(nc:List (List Nat))(clo:List Nat)(m:Nat):Bool:=(List.range m).all (abb ops nc clo)&&(List.range ops.size).all (KI ops)
def qy (clo:List Nat):Nat->Nat
 |0=>0
 |k+1=>bif (List.range k).all (aB (clo.getD k 0)) then qy clo k else k+1
def aiL (clo:List Nat):∀k,qy clo k<=k
 |0=>bB _
 |k+1=>by
  unfold qy;cases(List.range k).all (aB (clo.getD k 0)) with
  |true=>exact Nat.le_succ_of_le (aiL clo k)
  |false=>exact bB _
def aiK (clo:List Nat):∀k i,qy clo k<=i->i<k->∀j,j<i->aB (clo.getD i 0) j=true
 |0,i,_,h=>by omega
 |k+1,i,h1,h2=>by
  unfold qy at h1;cases hb:(List.range k).all (aB (clo.getD k 0)) with
  |true=>
   rw[hb] at h1;by_cases e:i=k
   .subst e;exact λj hj=>bT.1 hb j (cu.2 hj)
   .exact aiK clo k i h1 (by omega)
  |false=>rw[hb] at h1;simp only[zyx] at h1;omega
def abc (C:Ctx)(ops:Array Oper)(S:St):Option (St×List PI):=
 (BS C S ops (qy (dU ops ops.size) ops.size)).bind λq=>
    bif E3 ops (rA (q.map (·.2)) (qy (dU ops ops.size) ops.size)) (dU ops ops.size) (qy (dU ops ops.size) ops.size) then
     (pG C ops (List.range' (qy (dU ops ops.size) ops.size) (ops.size-qy (dU ops ops.size) ops.size)) (S.withR (gf ops (q.map (·.1)) (List.range (qy (dU ops ops.size) ops.size)) S.r))).map λr=>(r.1,(q.map (·.2)).flatten++r.2)
    else none
def NS (ops:Array Oper)(shs:List Sh)(i:Nat)(l:List Nat)(f:Nat->Sh):gf ops shs (i::l) f=gf ops shs l (match(ops[i]?).bind (·.dst) with|some d=>cr f d (shs.getD i .none)|none=>f):=rfl
def H2 {ops:Array Oper}{shs:List Sh}{t:Nat}:∀{l:List Nat} {f:Nat->Sh},(∀i,i∈l->(ops[i]?).bind (·.dst)≠some t)->gf ops shs l f t=f t
 |[],_,_=>rfl
 |i::l,f,h=>by
  rw[NS,H2 λj hj=>h j (dK _ hj)];have:=h i (dS ..);cases hd:(ops[i]?).bind (·.dst) with
  |none=>rfl
  |some d=>exact bF _ _ (λe=>this (by rw[hd,e]))
def OM (ops:Array Oper):Prop:=∀(i j t:Nat),(ops[i]?).bind (·.dst)=some t->(ops[j]?).bind (·.dst)=some t->i=j
def NR {ops:Array Oper}(ho:OM ops){shs:List Sh}{t i:Nat}(ht:(ops[i]?).bind (·.dst)=some t):∀{l:List Nat} {f:Nat->Sh},i∈l->gf ops shs l f t=shs.getD i .none
 |[],_,h=>nomatch h
 |j::l,f,h=>by
  rw[NS];by_cases hl:i∈l
  .exact NR ho ht hl
  .have e:i=j:=(cQ.1 h).resolve_right hl;subst e;rw[H2 λk hk e=>hl (by rw[ho i k t ht e];exact hk),ht];exact aP _ _ _
def aiy {ops:Array Oper}(ho:OM ops){shs V8:List Sh}{l m:List Nat}{f:Nat->Sh}{t:Nat}(h1:∀i,(ops[i]?).bind (·.dst)=some t->(i∈l↔i∈m))(h2:∀i,i∈l->(ops[i]?).bind (·.dst)=some t->shs.getD i .none=V8.getD i .none):gf ops shs l f t=gf ops V8 m f t:=by
 by_cases hh:∃i,i∈l/\(ops[i]?).bind (·.dst)=some t
 .obtain⟨i,hi,ht⟩:=hh;rw[NR ho ht hi,NR ho ht ((h1 i ht).1 hi),h2 i hi ht]
 .rw[H2 λi hi e=>hh ⟨i,hi,e⟩,H2 λi hi e=>hh ⟨i,(h1 i e).2 hi,e⟩]
def aur {ops:Array Oper}(h:(ops.toList.filterMap (·.dst)).Nodup):OM ops:=by
 intro i j t hi hj;rw[aA] at hi hj;obtain⟨oi,h1,h2⟩:=hi;obtain⟨oj,h3,h4⟩:=hj;by_cases e:i=j
 .exact e
 .exact(yi.dst_once h h1 h3 h2 h4 e).elim
def QC {C:Ctx}{S:St}{ops:Array Oper}:∀{k:Nat} {q:List (Sh×List PI)},BS C S ops k=some q->q.length=k/\∀i,i<k->∃o,ops[i]?=some o/\
 v8 C (S.withR (gf ops (q.map (·.1)) (List.range i) S.r)) ops o=some ((q.map (·.1)).getD i .none,(q.map (·.2)).getD i [])
 |0,q,h=>by simp only[BS,aZ] at h;subst h;exact⟨rfl,λi hi=>by omega⟩
 |k+1,q,h=>by
  simp only[BS,aA] at h;obtain⟨p,hp,h⟩:=h;split at h
  case h_2=>cases h
  rename_i o ho;simp only[aD] at h;obtain⟨r,hr,rfl⟩:=h;obtain⟨l1,aU⟩:=QC hp;have same:∀i,i<=k->gf ops ((p++[r]).map (·.1)) (List.range i) S.r=gf ops (p.map (·.1)) (List.range i) S.r:=by
   intro i hi;have key:∀(l:List Nat) (f:Nat->Sh),(∀j,j∈l->j<p.length)->gf ops ((p++[r]).map (·.1)) l f=gf ops (p.map (·.1)) l f:=by
    intro l
    induction l with
    |nil=>intro f _;rfl
    |cons j l ih=>
     intro f hl;have hj:=hl j (dS ..);have e:((p++[r]).map (·.1)).getD j .none=(p.map (·.1)).getD j .none:=by
       rw[sr,aL,lP (by simpa using hj),<-aL]
     rw[NS,NS,e,ih _ λm hm=>hl m (dK _ hm)]
   exact key _ _ λj hj=>by have:=cu.1 hj;omega
  refine⟨by simp[l1],λi hi=>?_⟩;by_cases e:i=k
  .subst e;refine⟨o,ho,?_⟩;rw[same i (bB _),hr];have e1:((p++[r]).map (·.1)).getD i .none=r.1:=by
    rw[sr,aL,mu (by simp[l1])];simp[l1]
   have e2:((p++[r]).map (·.2)).getD i []=r.2:=by
    rw[sr,aL,mu (by simp[l1])];simp[l1]
   rw[e1,e2]
  .obtain⟨o',h1,h2⟩:=aU i (by omega);refine⟨o',h1,?_⟩;rw[same i (by omega),h2];have:i<p.length:=by omega
   simp only[sr,aL];rw[lP (by simpa using this),lP (by simpa using this)]
def Kv (ops:Array Oper):∀k,(dU ops k).length=k
 |0=>rfl
 |k+1=>by simp[dU,Kv ops k]
def aaB (ops:Array Oper){k m i:Nat}(h:i<k)(hm:k<=m):(dU ops m).getD i 0=(dU ops k).getD i 0:=by
 induction m with
 |zero=>omega
 |succ m ih=>
  by_cases e:k=m+1
  .rw[e]
  .rw[<-ih (by omega)];simp only[dU,aL];rw[lP (by rw[Kv];omega)]
def Kw {ops:Array Oper}{N i m:Nat}{o:Oper}(hi:i<N)(ho:ops[i]?=some o)(ao:(o.after.toList.all λe=> !Region.binds .any e||Nat.blt e.on i)=true)(h:aB ((dU ops N).getD i 0) m=true):
 ∃e,e∈o.after.toList/\Region.binds .any e=true/\(m=e.on\/aB ((dU ops N).getD e.on 0) m=true):=by
 rw[aaB ops (k:=i+1) (by omega) (by omega)] at h
 have e1:(dU ops (i+1)).getD i 0=o.after.toList.foldr (λe m=>bif Region.binds .any e then Nat.lor (Nat.lor (eh e.on) ((dU ops i).getD e.on 0)) m else m) 0:=by
  simp only[dU,aL];rw[mu (by rw[Kv];exact bB _),Kv];simp[ho]
 rw[e1] at h;have aU:=bT.1 ao;generalize o.after.toList=l at h aU
 induction l with
 |nil=>rw[ua] at h;simp at h
 |cons e l ih=>
  simp only[List.foldr_cons] at h;cases hb:Region.binds .any e<;>rw[hb] at h<;>simp only[zyy,zyx] at h
  .obtain⟨e',h1,h2⟩:=ih h (λx hx=>aU x (dK _ hx));exact⟨e',dK _ h1,h2⟩
  .rw[fS,fS,gJ,gJ] at h;have oI:e.on<i:=by
        have:=aU e (dS ..);rw[hb] at this;simpa [jC] using this
   rcases h with(h|h)|h
   .refine⟨e,dS ..,hb,.inl ?_⟩;have:=j5 0 e.on m;have z:aB 0 m=false:=by rw[ua];simp
    rw[fS,z,qE,qE,h] at this;exact(df this.symm).symm
   .refine⟨e,dS ..,hb,.inr ?_⟩;rw[aaB ops oI (by omega)];exact h
   .obtain⟨e',h1,h2⟩:=ih h (λx hx=>aU x (dK _ hx));exact⟨e',dK _ h1,h2⟩
section
variable {C:Ctx} {S:St} {O:Env} {V:Im} {own:Nat->Option Nat} {hv:Nat->Value} {w0:World} {σ0:Base} {A:Nat->Prop} {a:Act} {w:World} {n:Nat} {ids:List Nat} {Z:aW}
def ah1 {ops:Array Oper}{listed:Array Bool}{E:Nat}(aJ:listed.size=ops.size)(hl:∀i,listed.getD i false=aB E i)(i:Nat):i∈Region.ready .any ops listed↔i∈nf ops E:=by
 unfold Region.ready nf;simp only[eg,cu];refine and_congr_right λhi=>?_;have h1:listed.getD i true=aB E i:=by
  rw[<-hl i];simp only[eG];rw[gl (by omega)];rfl
 have h2:ops[i]?=some ops[i]:=gl hi;rw[h1,h2];simp only[ld,jc,<-Zx,hl]
def xt (ops:Array Oper)(E:Nat):Nat->Prop:=λt=>∃i o,aB E i=true/\ops[i]?=some o/\o.dst=some t
def tK (ops:Array Oper)(E:Nat):Nat:=((List.range ops.size).filter λi=> !aB E i).length
def aA4 {ops:Array Oper}{E i:Nat}(hi:i<ops.size)(hb:aB E i=false):tK ops E=tK ops (Nat.lor E (eh i))+1:=by
 unfold tK;obtain⟨l1,l2,hl⟩:=ZK (cu.2 hi);have bz:=OF (n:=ops.size);rw[hl,An] at bz;obtain⟨_,h2,h3⟩:=bz;rw[oh] at h2;have g1:∀j,j∈l1->j≠i:=λj hj=>h3 j hj i (dS ..);have g2:∀j,j∈l2->j≠i:=λj hj e=>h2.1 (e▸hj)
 have c:∀l:List Nat,(∀j,j∈l->j≠i)->(l.filter λj=> !aB (Nat.lor E (eh i)) j)=l.filter λj=> !aB E j:=by
  intro l hl;apply ZN;intro j hj;rw[j5,eY (λe=>hl j hj e.symm),se]
 have dx:aB (Nat.lor E (eh i)) i=true:=by rw[j5,iK,px]
 rw[hl];simp only[DU,List.filter_cons,c l1 g1,c l2 g2,hb,dx,tO,Bool.not_false,if_true,xL,if_false,jW,lQ];omega
def am1 {rd:Option Nat}(hC:CtxOK C σ0)(bo:dJ C)(hΦ:dw C Z)(hY:qJ C Z w0 σ0){a0:Act}(Rv:a0.tmps.size=n){ops:Array Oper}(aC:tB n ops=true)(fV:BW ops=true){m:Nat}(hm:m<=ops.size){q:List (Sh×List PI)}(hq:BS C S ops m=some q)
 (wz:E3 ops (rA (q.map (·.2)) m) (dU ops ops.size) m=true) (Cj:∀i,m<=i->i<ops.size->∀j,j<i->aB ((dU ops ops.size).getD i 0) j=true) {Q:Exit->Act->World->Prop} {O':Env}
 (hK:∀listed a' w',listed.size=ops.size->(∀i,listed.getD i false=decide (i<m))->SameBut (sG ops) a0 a'->Good C w0 σ0 (S.withR (gf ops (q.map (·.1)) (List.range m) S.r)) O' (ni ops (List.range m)) a' w'->wpAnyIn (FR rd) 0 C.P .any ops Q (ops.size-m) listed a' w'):
 ∀(k E:Nat) (listed:Array Bool) (O:Env) (a:Act) (w:World),tK ops E=k->(∀j,aB E j=true->j<m)->(∀j,j<ops.size->aB E j=true->∀m,aB ((dU ops ops.size).getD j 0) m=true->aB E m=true)->listed.size=ops.size->(∀i,listed.getD i false=aB E i)->SameBut (sG ops) a0 a->
  Good C w0 σ0 (S.withR (gf ops (q.map (·.1)) ((List.range m).filter (aB E)) S.r)) O (xt ops E) a w->PI.runs Z (fj (q.map (·.2)) (List.range m) E) O=some O'->wpAnyIn (FR rd) 0 C.P .any ops Q k listed a w:=by
 have LI:=aC;simp only[tB,av] at aC;have bz:=nL aC.1;have RG:=aur bz;obtain⟨hlen,aU⟩:=QC hq;unfold E3 at wz;rw[av] at wz
 have Fe:∀i,i<ops.size->∀o,ops[i]?=some o->(o.after.toList.all λe=> !Region.binds .any e||Nat.blt e.on i)=true:=by
  intro i hi o ho;have:=bT.1 wz.2 i (cu.2 hi);unfold KI at this;rw[ho] at this;exact this
 have aqs:∀i,i<m->∀o,ops[i]?=some o->((rA (q.map (·.2)) m).getD i []).all (aB ((dU ops ops.size).getD i 0))=true/\
  ∀t,t∈ah0 ops o->∀j,j<ops.size->(ops[j]?).bind (·.dst)=some t->(j<i/\aB ((dU ops ops.size).getD i 0) j=true)\/aB ((dU ops ops.size).getD j 0) i=true:=by
  intro i hi o ho;have:=bT.1 wz.1 i (cu.2 hi);unfold abb at this;rw[ho] at this;simp only[av] at this;refine⟨this.1.1,λt ht j hj hd=>?_⟩;have:=bT.1 (bT.1 this.2 t ht) j (cu.2 hj);rw[hd] at this;simp only[iK,tO,qE,gJ,av,jC] at this;exact this
 have Z6:∀(k E:Nat) (listed:Array Bool) (O:Env) (a:Act) (w:World),(∀i,i<m->aB E i=true)->tK ops E=k->(∀j,aB E j=true->j<m)->listed.size=ops.size->(∀i,listed.getD i false=aB E i)->SameBut (sG ops) a0 a->
  Good C w0 σ0 (S.withR (gf ops (q.map (·.1)) ((List.range m).filter (aB E)) S.r)) O (xt ops E) a w->PI.runs Z (fj (q.map (·.2)) (List.range m) E) O=some O'->wpAnyIn (FR rd) 0 C.P .any ops Q k listed a w:=by
  intro k E listed O a w jF hk yT aJ hl hn hg ar;have hb:∀i,aB E i=decide (i<m):=by
   intro i;by_cases h:i<m
   .rw[jF i h,decide_eq_true h]
   .rw[decide_eq_false h];cases hb:aB E i with
    |false=>rfl
    |true=>exact absurd (yT i hb) h
  have Ra:fj (q.map (·.2)) (List.range m) E=[]:=by
   unfold fj;rw[ajW];intro i hi;rw[jF i (cu.1 hi)];rfl
  rw[Ra] at ar;simp only[PI.runs,aZ] at ar;subst ar;have apd:tK ops E=ops.size-m:=by
   unfold tK
   have key:∀N,m<=N->((List.range N).filter λi=> !aB E i).length=N-m:=by
        intro N
        induction N with
        |zero=>intro _;simp
        |succ N ih=>
         intro hN;rw[OH,DU,jW];by_cases h:m<=N
         .rw[ih h];simp[hb N,Nat.not_lt.2 h];omega
         .have:m=N+1:=by omega
          have e:(List.range N).filter (λi=> !aB E i)=[]:=by
           rw[List.filter_eq_nil_iff];intro i hi;rw[jF i (by have:=cu.1 hi;omega)];simp
          have hN':aB E N=true:=jF N (by omega);rw[e];simp[hN'];omega
   exact key _ hm
  have ef:(List.range m).filter (aB E)=List.range m:=List.filter_eq_self.2 λi hi=>jF i (cu.1 hi);rw[ef] at hg;have uL:xt ops E=ni ops (List.range m):=by
   funext t;apply propext;constructor
   .rintro⟨i,o,h1,h2,h3⟩;exact⟨i,o,cu.2 (yT i h1),h2,h3⟩
   .rintro⟨i,o,h1,h2,h3⟩;exact⟨i,o,jF i (cu.1 h1),h2,h3⟩
  rw[uL] at hg;rw[<-hk,apd];exact hK listed a w aJ (λi=>by rw[hl i,hb i]) hn hg
 intro k
 induction k with
 |zero=>
  intro E listed O a w hk yT Lc aJ hl hn hg ar;refine Z6 0 E listed O a w (λi hi=>?_) hk yT aJ hl hn hg ar;cases hb:aB E i with
  |true=>rfl
  |false=>
   have:i∈(List.range ops.size).filter λi=> !aB E i:=eg.2 ⟨cu.2 (by omega),by rw[hb];rfl⟩;unfold tK at hk;rw[List.length_eq_zero_iff.1 hk] at this;cases this
 |succ k ih=>
  intro E listed O a w hk yT Lc aJ hl hn hg ar;by_cases jF:∀i,i<m->aB E i=true
  .exact Z6 (k+1) E listed O a w jF hk yT aJ hl hn hg ar
  refine⟨λhe=>?_,λi hi=>?_⟩
  ·
   obtain⟨i,hi,Ly⟩:∃i,(i<m/\aB E i=false)/\∀j,j<i->aB E j=true:=by
        have hex:∃i,i<m/\aB E i=false:=by
         refine sk λeK=>jF λi hi=>?_;cases hb:aB E i with
         |true=>rfl
         |false=>exact absurd ⟨i,hi,hb⟩ eK
        obtain⟨i,hi⟩:=hex
        induction i using Nat.strongRecOn with
        |ind i kP=>
         by_cases hh:∃j,j<i/\aB E j=false
         .obtain⟨j,hj,hb⟩:=hh;exact kP j hj ⟨by omega,hb⟩
         .refine⟨i,hi,λj hj=>?_⟩;cases hb:aB E j with
          |true=>rfl
          |false=>exact absurd ⟨j,hj,hb⟩ hh
   have uD:i<ops.size:=by omega
   have ho:ops[i]?=some ops[i]:=gl uD;have cO:i∈nf ops E:=by
        unfold nf;simp only[eg,cu,av,jb,ho];refine⟨uD,hi.2,?_⟩;rw[bT];intro e iU;have:=bT.1 (Fe i uD _ ho) e iU;cases hb:Region.binds .any e with
        |false=>rfl
        |true=>
         rw[hb] at this;simp only[tO,qE,jC] at this;rw[Ly _ this];rfl
   rw[<-ah1 aJ hl,he] at cO;cases cO
  .rw[ah1 aJ hl] at hi;unfold nf at hi;simp only[eg,cu,av,jb] at hi;obtain⟨bE,dA,wq⟩:=hi;have ho0:ops[i]?=some ops[i]:=gl bE;generalize ops[i]=o at ho0;have ho:=ho0;rw[ho] at wq;simp only at wq;have o2:=Fe i bE o ho;have B4:∀m,aB ((dU ops ops.size).getD i 0) m=true->aB E m=true:=by
        intro m hm;obtain⟨e,iT,jJ,yG⟩:=Kw bE ho o2 hm;have hE:aB E e.on=true:=by
         have:=bT.1 wq e iT
         rwa [jJ,tO,qE] at this
        rcases yG with rfl|yG
        .exact hE
        .have oI:e.on<i:=by
          have:=bT.1 o2 e iT;rw[jJ] at this;simpa [jC] using this
         exact Lc e.on (by omega) hE m yG
   have l0:i<m:=by
        refine sk λeK=>jF λj hj=>?_;exact B4 j (Cj i (by omega) bE j (by omega))
   obtain⟨o',eT,jL⟩:=aU i l0;rw[ho] at eT;cases eT;obtain⟨o1,o3⟩:=aqs i l0 o ho;have dh:((rA (q.map (·.2)) m).getD i []).all (aB E)=true:=by
        rw[bT] at o1 ⊢;exact λm hm=>B4 m (o1 m hm)
   have apg:v8 C (S.withR (gf ops (q.map (·.1)) ((List.range m).filter (aB E)) S.r)) ops o=some ((q.map (·.1)).getD i .none,(q.map (·.2)).getD i []):=by
        rw[<-jL];refine amZ (S:=S.withR (gf ops (q.map (·.1)) (List.range i) S.r)) λt ht=>?_;refine aiy RG (λj hj=>?_) (λ_ _ _=>rfl);have gO:j<ops.size:=by
         rw[aA] at hj;obtain⟨oj,h1,_⟩:=hj;exact(gX.1 h1).1
        rw[eg,cu,cu];rcases o3 t ht j gO hj with⟨h1,h2⟩|h1
        .exact⟨λ_=>h1,λ_=>⟨by omega,B4 j h2⟩⟩
        .constructor
         .rintro⟨_,q8⟩;have:=Lc j gO q8 i h1;rw[dA] at this;cases this
         .intro jh;exfalso;have key:∀m j,j<ops.size->aB ((dU ops ops.size).getD j 0) m=true->m<j:=by
           intro m j
           induction j using Nat.strongRecOn with
           |ind j kP=>
            intro hj hm;have sT:ops[j]?=some ops[j]:=gl hj;have p2:=Fe j hj _ sT;obtain⟨e,e1,e2,e3⟩:=Kw hj sT p2 hm;have oI:e.on<j:=by
                have:=bT.1 p2 e e1;rw[e2] at this;simpa [jC] using this
            rcases e3 with rfl|e3
            .exact oI
            .have:=kP e.on oI (by omega) e3;omega
          have:=key i j gO h1;omega
   have hcp:=amY apg;rw[ah9 l0 dA dh,aA] at ar;obtain⟨ρ1,hρ1,hρ2⟩:=ar;have sP:∀d,o.dst=some d->¬xt ops E d/\d<a.tmps.size:=by
        intro d hd;refine⟨λ⟨i',o',dx,eT,fU⟩=>?_,?_⟩
        .have aF:i'≠i:=λe=>by subst e;rw[dA] at dx;cases dx
         exact yi.dst_once bz eT ho fU hd aF
        .have:=bT.1 aC.2 o (by simpa using ja ho);simp only[hd,av] at this;rw[hn.size,Rv];simpa [jC] using this.2
   have kL:qe o.op=true:=by
        have:=bT.1 aC.2 o (by simpa using ja ho);simp only[av] at this;exact this.1
   have hj:∀j want t,o.guard=some (j,want)->(ops[j]?).bind (·.dst)=some t->xt ops E t:=by
        intro j want t lq ht;rw[aA] at ht;obtain⟨oj,h1,h2⟩:=ht;have wv:=bT.1 fV o (by simpa using ja ho);simp only[lq] at wv;obtain⟨e,iT,jJ⟩:=jA.1 wv;simp only[av] at jJ;have h3:=bT.1 wq e iT;rw[jJ.1] at h3;simp only[tO,qE] at h3;exact⟨j,oj,by rw[<-df jJ.2];exact h3,h1,h2⟩
   have apc:∀j,j<ops.size->aB (Nat.lor E (eh i)) j=true->∀m,aB ((dU ops ops.size).getD j 0) m=true->aB (Nat.lor E (eh i)) m=true:=by
        intro j hj q8 m hm;rw[j5,gJ] at q8;rw[j5,gJ];rcases q8 with q8|q8
        .exact .inl (Lc j hj q8 m hm)
        .rw[<-df q8] at hm;exact .inl (B4 m hm)
   have main:=Ky (rd:=rd) (K:=wpAnyIn (FR rd) 0 C.P .any ops Q k (listed.setIfInBounds i true)) (Q:=Q) hg hC bo hΦ hY kL sP hj hcp hρ1 (λa' w' gw sV=>by
        have hA:(λu=>xt ops E u\/o.dst=some u)=xt ops (Nat.lor E (eh i)):=by
         funext u;apply propext;constructor
         .rintro(⟨i',o',h1,h2,h3⟩|h1)
          .exact⟨i',o',by rw[j5,h1,xM],h2,h3⟩
          .exact⟨i,o,by rw[j5,iK,px],ho,h1⟩
         .rintro⟨i',o',h1,h2,h3⟩;rw[j5,gJ] at h1;rcases h1 with h1|h1
          .exact .inl ⟨i',o',h1,h2,h3⟩
          .rw[<-df h1,ho] at h2;cases h2;exact .inr h3
        rw[hA] at gw;have hSt:pq (S.withR (gf ops (q.map (·.1)) ((List.range m).filter (aB E)) S.r)) o ((q.map (·.1)).getD i .none)=S.withR (gf ops (q.map (·.1)) ((List.range m).filter (aB (Nat.lor E (eh i)))) S.r):=by
         have apB:∀t,(pq (S.withR (gf ops (q.map (·.1)) ((List.range m).filter (aB E)) S.r)) o ((q.map (·.1)).getD i .none)).r t=gf ops (q.map (·.1)) ((List.range m).filter (aB (Nat.lor E (eh i)))) S.r t:=by
          intro t;by_cases Lg:o.dst=some t
          .have hb:(ops[i]?).bind (·.dst)=some t:=by rw[ho];exact Lg
           rw[NR RG hb (eg.2 ⟨cu.2 l0,by rw[j5,iK,px]⟩)];unfold pq;rw[Lg];simp[St.setR,aP]
          .have e1:(pq (S.withR (gf ops (q.map (·.1)) ((List.range m).filter (aB E)) S.r)) o ((q.map (·.1)).getD i .none)).r t=gf ops (q.map (·.1)) ((List.range m).filter (aB E)) S.r t:=by
            unfold pq;split
            .rename_i d hd;exact bF _ _ (λe=>Lg (by rw[hd,e]))
            .rfl
           rw[e1];refine aiy RG (λj hj=>?_) (λ_ _ _=>rfl);have jh:¬i=j:=λe=>by subst e;rw[ho] at hj;exact Lg hj
           rw[eg,eg,j5,eY jh,se]
         have:∀(X Y:St),X.o=Y.o->X.ver=Y.ver->(∀t,X.r t=Y.r t)->X=Y:=by
          intro X Y h1 h2 h3;cases X;cases Y;simp only at h1 h2 h3;subst h1 h2
          congr 1
          exact funext h3
         refine this _ _ ?_ ?_ apB
         .unfold pq;split<;>rfl
         .unfold pq;split<;>rfl
        rw[hSt] at gw;refine ih _ _ ρ1 a' w' (by have:=aA4 bE dA;omega) (λj hj=>by rw[j5,gJ] at hj;rcases hj with hj|hj;exact yT j hj;rw[<-df hj];exact l0) apc (by simpa using aJ) (λj=>?_) (hn.trans (sV.mono λt e=>⟨o,by simpa using ja ho,e⟩)) gw hρ2;rw[j5];simp only[eG,xI];by_cases dt:i=j
        .subst dt;simp[aJ,bE]
        .rw[if_neg dt,eY dt,se,<-hl j];simp only[eG])
   simp only[wpOpIn,ho];split
   .rename_i hw;rw[if_pos hw] at main;exact main
   .rename_i hw;rw[if_neg hw] at main;exact⟨λ_ _=>trivial,main⟩
def axP {rd:Option Nat}(hC:CtxOK C σ0)(bo:dJ C)(hΦ:dw C Z)(hY:qJ C Z w0 σ0){ops:Array Oper}(aC:tB n ops=true)(fV:BW ops=true)(Fe:(List.range ops.size).all (KI ops)=true){m:Nat}
 (Cj:∀i,m<=i->i<ops.size->∀j,j<i->aB ((dU ops ops.size).getD i 0) j=true) {Q:Exit->Act->World->Prop} {O':Env}:
 ∀(k i:Nat) {S:St} {O:Env} {a:Act} {w:World} {r:St×List PI} (listed:Array Bool),i+k=ops.size->m<=i->listed.size=ops.size->(∀j,listed.getD j false=decide (j<i))->a.tmps.size=n->
  Good C w0 σ0 S O (ni ops (List.range i)) a w->pG C ops (List.range' i k) S=some r->PI.runs Z r.2 O=some O'->
  (∀a' w',SameBut (sG ops) a a'->Good C w0 σ0 r.1 O' (ni ops (List.range ops.size)) a' w'->Q .normal a' w')->wpAnyIn (FR rd) 0 C.P .any ops Q k listed a w:=by
 have LI:=aC;simp only[tB,av] at aC;have bz:=nL aC.1
 have OT:∀i,i<ops.size->∀o,ops[i]?=some o->(o.after.toList.all λe=> !Region.binds .any e||Nat.blt e.on i)=true:=by
  intro i hi o ho;have:=bT.1 Fe i (cu.2 hi);unfold KI at this;rw[ho] at this;exact this
 have mem:∀(listed:Array Bool) (i j:Nat),listed.size=ops.size->(∀j,listed.getD j false=decide (j<i))->(j∈Region.ready .any ops listed↔(j<ops.size/\¬j<i/\∀o,ops[j]?=some o->(o.after.toList.all λe=> !Region.binds .any e||decide (e.on<i))=true)):=by
  intro listed i j aJ hl;unfold Region.ready;simp only[eg,cu];refine and_congr_right λhj=>?_;have h1:listed.getD j true=decide (j<i):=by
   rw[<-hl j];simp only[eG];rw[gl (by omega)];rfl
  have h2:ops[j]?=some ops[j]:=gl hj;rw[h1,h2];simp only[ld,jc,<-Zx,hl,av,jb,decide_eq_false_iff_not,aZ,forall_eq']
 intro k
 induction k with
 |zero=>
  intro i S O a w r listed hik hmi aJ hl hn hg hr ar hQ;simp only[List.range'_zero,pG,aZ] at hr;subst hr;rw[pk ar] at hQ;refine⟨?_,hQ a w (.refl _ _) ?_⟩
  .rw[ZL];intro j hj;rw[mem listed i j aJ hl] at hj;exact hj.2.1 (by omega)
  .have:i=ops.size:=by omega
   rw[<-this];exact hg
 |succ k ih=>
  intro i S O a w r listed hik hmi aJ hl hn hg hr ar hQ;have bE:i<ops.size:=by omega
  have ho:ops[i]?=some ops[i]:=gl bE;generalize ops[i]=o at ho;refine⟨λhe=>?_,λi' dx=>?_⟩
  .have:i∈Region.ready .any ops listed:=by
        rw[mem listed i i aJ hl];refine⟨bE,by omega,λo' eT=>?_⟩;rw[bT];intro e iU;have:=bT.1 (OT i bE o' eT) e iU;cases hb:Region.binds .any e with
        |false=>rfl
        |true=>
         rw[hb] at this;simp only[tO,qE,jC] at this;simpa using this
   rw[he] at this;cases this
  .rw[mem listed i i' aJ hl] at dx;obtain⟨h1,h2,h3⟩:=dx;obtain rfl:i'=i:=by
        refine sk λaF=>?_;have eT:ops[i']?=some ops[i']:=gl h1;have B4:=Cj i' (by omega) h1 i (by omega);have ao:∀m j,j<ops.size->aB ((dU ops ops.size).getD j 0) m=true->m<j:=by
         intro m j
         induction j using Nat.strongRecOn with
         |ind j kP=>
          intro hj hm;have sT:ops[j]?=some ops[j]:=gl hj;have p2:=OT j hj _ sT;obtain⟨e,e1,e2,e3⟩:=Kw hj sT p2 hm;have oI:e.on<j:=by
           have:=bT.1 p2 e e1;rw[e2] at this;simpa [jC] using this
          rcases e3 with rfl|e3
          .exact oI
          .have:=kP e.on oI (by omega) e3;omega
        obtain⟨e,e1,e2,e3⟩:=Kw h1 eT (OT i' h1 _ eT) B4;have h4:=bT.1 (h3 _ eT) e e1;rw[e2] at h4;simp only[tO,qE,decide_eq_true_eq] at h4;rcases e3 with e3|e3
        .omega
        .have:=ao i e.on (by omega) e3;omega
   rw[It] at hr;simp only[pG,ho] at hr;simp only[aA,aD] at hr;obtain⟨r1,jN,q,hq,rfl⟩:=hr;simp only[qv,aA] at ar;obtain⟨ρ1,hρ1,hρ2⟩:=ar;have sP:∀d,o.dst=some d->¬ni ops (List.range i') d/\d<a.tmps.size:=by
        intro d hd;refine⟨λ⟨i2,o2,Ln,fC,dM⟩=>?_,?_⟩
        .have aF:i2≠i':=by have:=cu.1 Ln;omega
         exact yi.dst_once bz fC ho dM hd aF
        .have:=bT.1 aC.2 o (by simpa using ja ho);simp only[hd,av] at this;rw[hn];simpa [jC] using this.2
   have kL:qe o.op=true:=by
        have:=bT.1 aC.2 o (by simpa using ja ho);simp only[av] at this;exact this.1
   have hj:∀j want t,o.guard=some (j,want)->(ops[j]?).bind (·.dst)=some t->ni ops (List.range i') t:=by
        intro j want t lq ht;rw[aA] at ht;obtain⟨oj,h1,h2⟩:=ht;have wv:=bT.1 fV o (by simpa using ja ho);simp only[lq] at wv;obtain⟨e,iT,jJ⟩:=jA.1 wv;simp only[av] at jJ;have h4:=bT.1 (h3 o ho) e iT;rw[jJ.1] at h4;simp only[tO,qE,decide_eq_true_eq] at h4;exact⟨j,oj,cu.2 (by rw[<-df jJ.2];exact h4),h1,h2⟩
   have main:=Ky (rd:=rd) (K:=wpAnyIn (FR rd) 0 C.P .any ops Q k (listed.setIfInBounds i' true)) (Q:=Q) hg hC bo hΦ hY kL sP hj jN hρ1 (λa' w' gw jj=>by
        have:(λu=>ni ops (List.range i') u\/o.dst=some u)=ni ops (List.range (i'+1)):=by
         funext u;apply propext;constructor
         .rintro(⟨i2,o2,h1,h2,h3⟩|h1)
          .exact⟨i2,o2,cu.2 (by have:=cu.1 h1;omega),h2,h3⟩
          .exact⟨i',o,cu.2 (by omega),ho,h1⟩
         .rintro⟨i2,o2,g1,g2,g3⟩;by_cases e:i2=i'
          .rw[e,ho] at g2;cases g2;exact .inr g3
          .exact .inl ⟨i2,o2,cu.2 (by have:=cu.1 g1;omega),g2,g3⟩
        rw[this] at gw;refine ih (i'+1) _ (by omega) (by omega) (by simpa using aJ) (λj=>?_) (jj.size.trans hn) gw hq hρ2 (λa2 w2 s2 g2=>hQ a2 w2 ((jj.mono λt e=>⟨o,by simpa using ja ho,e⟩).trans s2) g2);simp only[eG,xI];by_cases dt:i'=j
        .subst dt;simp[aJ,bE]
        .rw[if_neg dt];have:=hl j;simp only[eG] at this;rw[this];by_cases ao:j<i'
         .rw[decide_eq_true ao,decide_eq_true (by omega:j<i'+1)]
         .rw[decide_eq_false ao,decide_eq_false (by omega:¬j<i'+1)])
   simp only[wpOpIn,ho];split
   .rename_i hw;rw[if_pos hw] at main;exact main
   .rename_i hw;rw[if_neg hw] at main;exact⟨λ_ _=>trivial,main⟩
end
def NI (C:Ctx)(n:Nat)(ids:List Nat)(ops:Array Oper)(draw:Bool)(S:Snap):Option (Snap×List PI):=
 bif tB n ops then
    bif draw then
     bif BW ops&&SS ops&&C.P.follows .mixedOrders then
        match abc C ops (S.st ids) with
        |some r=>some (⟨xw (fM r.1) r.1 S.rs (ops.toList.filterMap (·.dst)),ids.map λj=>jr r.1 (r.1.o j)⟩,r.2)
        |none=>
        (fP C ops (List.range ops.size) (S.st ids)).bind λX=>Fg X λX=>Fg (rA X ops.size) λnc=>
         (Snap.hard ⟨S.rs.map λs=>mc (S.st ids) (cP s),ids.map λj=>jr (S.st ids) ((S.st ids).o j)⟩ λT0=>HZ ops (tV C.P ops) (TX C ops n ids X nc) ops.size [(0,T0)]).map λT=>(⟨T.rs.map (fM (T.stO ids)),ids.map λj=>jr (T.stO ids) ((T.stO ids).o j)⟩,X.flatten)
     else none
    else bif abn ops then(pG C ops (List.range ops.size) (S.st ids)).map λr=>(⟨xw (fM r.1) r.1 S.rs (ops.toList.filterMap (·.dst)),ids.map λj=>jr r.1 (r.1.o j)⟩,r.2) else none
 else none
def NH (C:Ctx)(n:Nat)(ids:List Nat)(ops:Array Oper)(draw:Bool)(S:Snap):Option (Snap×List PI):=
 (NI C n ids ops draw S).bind λr=>r.1.hard λT=>some (T,r.2)
def awZ (C:Ctx)(n:Nat)(ids:List Nat)(ops:Array Oper)(draw:Bool)(S:Snap):NH C n ids ops draw S=NI C n ids ops draw S:=by
 unfold NH;cases NI C n ids ops draw S with
 |none=>rfl
 |some r=>rw[lb,Snap.hard_eq]
def z7 (ops:Array Oper)(E:Nat):Nat->Prop:=λt=>∃i o,aB E i=true/\ops[i]?=some o/\o.dst=some t
section
variable {C:Ctx} {S:St} {O:Env} {V:Im} {own:Nat->Option Nat} {hv:Nat->Value} {w0:World} {σ0:Base} {A:Nat->Prop} {a:Act} {w:World} {n:Nat} {ids:List Nat} {Z:aW}
def NF {ops:Array Oper}{listed:Array Bool}{E:Nat}(aJ:listed.size=ops.size)(hl:∀i,listed.getD i false=aB E i)(i:Nat):i∈Region.ready .any ops listed↔i∈nf ops E:=by
 unfold Region.ready nf;simp only[eg,cu];refine and_congr_right λhi=>?_;have h1:listed.getD i true=aB E i:=by
  rw[<-hl i];simp only[eG];rw[gl (by omega)];rfl
 have h2:ops[i]?=some ops[i]:=gl hi;rw[h1,h2];simp only[ld,jc,<-Zx,hl]
def axm {rd:Option Nat}(hC:CtxOK C σ0)(bo:dJ C)(hΦ:dw C Z)(hY:qJ C Z w0 σ0){a0:Act}(Rv:a0.tmps.size=n){ops:Array Oper}(aC:tB n ops=true)(fV:BW ops=true){X:List (List PI)}{Q:Exit->Act->World->Prop}{O':Env}(Ch:SS ops=true)(hQp:∀c a w,¬Q (.panic c) a w):
 ∀(k:Nat) {L:List (Nat×Snap)} {T:Snap},HZ ops (tV C.P ops) (TX C ops n ids X (rA X ops.size)) k L=some T->
  (∀a' w',SameBut (sG ops) a0 a'->Good C w0 σ0 (T.stO ids) O' (λt=>∃E,z7 ops E t) a' w'->Q .normal a' w')->
  ∀(E:Nat) (U:Snap),(E,U)∈L->∀(listed:Array Bool) (O:Env) (a:Act) (w:World),listed.size=ops.size->(∀i,listed.getD i false=aB E i)->SameBut (sG ops) a0 a->
   Good C w0 σ0 (U.stO ids) O (z7 ops E) a w->PI.runs Z (fj X (List.range ops.size) E) O=some O'->wpAnyIn (FR rd) 0 C.P .any ops Q k listed a w:=by
 simp only[tB,av] at aC;have bz:=nL aC.1;intro k
 induction k with
 |zero=>
  intro L T hs hQ E U hm listed O a w aJ hl hn hg ar;simp only[HZ] at hs;split at hs
  case h_2=>cases hs
  rename_i x;cases aU:(List.range ops.size).all (aB x.1)<;>simp only[aU,zyy,zyx] at hs
  .cases hs
  cases hs;simp only[su] at hm;subst hm;simp only at aU hg hQ ar hl;have jF:=bT.1 aU;have Ra:fj X (List.range ops.size) E=[]:=by
   unfold fj;rw[ajW];intro i hi;rw[jF i hi];rfl
  rw[Ra] at ar;simp only[PI.runs,aZ] at ar;subst ar;refine⟨?_,hQ a w hn ?_⟩
  .rw[ZL];intro i hi;rw[NF aJ hl] at hi;unfold nf at hi;simp only[eg,av,jb] at hi;rw[jF i hi.1] at hi;cases hi.2.1
  .obtain⟨V,own,hv,h⟩:=hg;exact⟨V,own,hv,h.defers,h.ok,h.le,h.old,h.newc,h.newm,h.below,h.bw,h.owns,h.regs,h.objs,λt gs s e=>⟨λg hm=>⟨E,(h.opts t gs s e).1 g hm⟩,(h.opts t gs s e).2⟩,h.frame⟩
 |succ k ih=>
  intro L T hs hQ E U hm listed O a w aJ hl hn hg ar;simp only[HZ,aA] at hs;obtain⟨L',hL,hs⟩:=hs;obtain⟨_,cO⟩:=ado hL;obtain⟨aF,RY⟩:=cO _ hm;have aqf:nf ops E≠[]:=λe=>aF (by unfold qM;rw[e];rfl)
  have cq:∀i,i∈qM ops (tV C.P ops) E->i∈nf ops E:=λi hi=>by
   unfold qM at hi;split at hi
   .rename_i i' hp;rw[su.1 hi];exact(N0 hp).1
   .exact hi
  have step:∀i,i∈qM ops (tV C.P ops) E->∀Q':Exit->Act->World->Prop,wpOpIn (FR rd) 0 C.P ops Q' i (wpAnyIn (FR rd) 0 C.P .any ops Q k (listed.setIfInBounds i true)) a w:=by
   intro i hi Q';obtain⟨y,hy,hyL⟩:=RY i hi;have hi:=cq i hi;unfold nf at hi;simp only[eg,cu,av,jb] at hi;obtain⟨bE,dA,wq⟩:=hi;simp only[TX] at hy;split at hy
   case h_2=>cases hy
   rename_i o ho;simp only[aA] at hy;obtain⟨r,hr,hy⟩:=hy;cases hc:(PI.beqs r.2 (X.getD i [])&&((rA X ops.size).getD i []).all (aB E))<;>simp only[hc,zyy,zyx] at hy
   .cases hy
   cases hy;simp only[av] at hc;have hX:=PI.beqs_eq _ _ hc.1;rw[ah9 bE dA hc.2,aA] at ar;obtain⟨ρ1,hρ1,hρ2⟩:=ar;rw[<-hX] at hρ1;rw[ho] at wq;simp only at wq;have sP:∀d,o.dst=some d->¬z7 ops E d/\d<a.tmps.size:=by
        intro d hd;refine⟨λ⟨i',o',dx,eT,fU⟩=>?_,?_⟩
        .have aF:i'≠i:=λe=>by subst e;rw[dA] at dx;cases dx
         exact yi.dst_once bz eT ho fU hd aF
        .have:=bT.1 aC.2 o (by simpa using ja ho);simp only[hd,av] at this;rw[hn.size,Rv];simpa [jC] using this.2
   have kL:qe o.op=true:=by
        have:=bT.1 aC.2 o (by simpa using ja ho);simp only[av] at this;exact this.1
   have hj:∀j want t,o.guard=some (j,want)->(ops[j]?).bind (·.dst)=some t->z7 ops E t:=by
        intro j want t lq ht;rw[aA] at ht;obtain⟨oj,h1,h2⟩:=ht;have wv:=bT.1 fV o (by simpa using ja ho);simp only[lq] at wv;obtain⟨e,iT,jJ⟩:=jA.1 wv;simp only[av] at jJ;have h3:=bT.1 wq e iT;rw[jJ.1] at h3;simp only[tO,qE] at h3;exact⟨j,oj,by rw[<-df jJ.2];exact h3,h1,h2⟩
   have main:=Ky (rd:=rd) (K:=wpAnyIn (FR rd) 0 C.P .any ops Q k (listed.setIfInBounds i true)) (Q:=Q') hg hC bo hΦ hY kL sP hj hr hρ1 (λa' w' gw sV=>by
        have hA:(λu=>z7 ops E u\/o.dst=some u)=z7 ops (Nat.lor E (eh i)):=by
         funext u;apply propext;constructor
         .rintro(⟨i',o',h1,h2,h3⟩|h1)
          .exact⟨i',o',by rw[j5,h1,xM],h2,h3⟩
          .exact⟨i,o,by rw[j5,iK,px],ho,h1⟩
         .rintro⟨i',o',h1,h2,h3⟩;rw[j5,gJ] at h1;rcases h1 with h1|h1
          .exact .inl ⟨i',o',h1,h2,h3⟩
          .rw[<-df h1,ho] at h2;cases h2;exact .inr h3
        rw[hA] at gw
        refine ih hs hQ _ _ hyL _ ρ1 a' w' (by simpa using aJ) (λj=>?_) (hn.trans (sV.mono λt e=>⟨o,by simpa using ja ho,e⟩)) (by
         have:=gw.snapO U.rs.length ids
         rw[show r.1.snapO U.rs.length ids=⟨xw (mc r.1) r.1 U.rs o.dst.toList,ids.map λj=>jr r.1 (r.1.o j)⟩ from by
          unfold St.snapO;rw[H3 λt ht=>?_];rw[aaC hr t (λe=>ht (by rw[e];simp))];rfl] at this
         exact this) hρ2
        rw[j5];simp only[eG,xI];by_cases dt:i=j
        .subst dt;simp[aJ,bE]
        .rw[if_neg dt,eY dt,se,<-hl j];simp only[eG])
   simp only[wpOpIn,ho];split
   .rename_i hw;rw[if_pos hw] at main;exact main
   .rename_i hw;rw[if_neg hw] at main;exact⟨λ_ _=>trivial,main⟩
  cases RM:DE (tV C.P ops) E (nf ops E) with
  |none=>
   have lX:qM ops (tV C.P ops) E=nf ops E:=by unfold qM;rw[RM]
   refine⟨λhe=>?_,λi hi=>step i (by rw[lX];exact(NF aJ hl i).1 hi) Q⟩;exfalso;refine aqf ?_;rw[ZL];intro i hi;rw[<-NF aJ hl,he] at hi;cases hi
  |some i=>
   have lX:qM ops (tV C.P ops) E=[i]:=by unfold qM;rw[RM]
   obtain⟨hir,b,hb,ao7⟩:=N0 RM;obtain⟨oi,hoi,RO,QT⟩:=akK hb;obtain⟨v,hv,hK⟩:=avD hoi RO (step i (by rw[lX];simp) _);refine aBn (λj o ho=>?_) hoi (λj o cs b' ho e=>?_) (λc a' w' h=>(hQp _ _ _ h).elim) k listed a w (λj oj hj jh oL eK=>QT j oj hj jh (λLq=>?_) eK) ((NF aJ hl i).2 hir) hv hK
   .have:=bT.1 aC.2 o (by simpa using ja ho);simp only[av] at this;exact this.1
   .have:=bT.1 Ch o (by simpa using ja ho);rw[e] at this;cases this
   .have h1:=bT.1 ao7 j Lq;have h2:=hl j;rw[h1] at h2;simp only[eG] at h2 oL;cases Ca:listed[j]? with
    |none=>rw[Ca] at h2;cases h2
    |some x=>
     rw[Ca] at h2 oL;simp only[jc] at h2 oL;rw[h2] at oL;cases oL
def ais {ops:Array Oper}:∀{l:List Nat} {S:St} {X:List (List PI)},fP C ops l S=some X->X.length=l.length
 |[],S,X,h=>by simp only[fP,aZ] at h;subst h;rfl
 |i::l,S,X,h=>by
  simp only[fP] at h;split at h
  case h_2=>cases h
  simp only[aA,aD] at h;obtain⟨r,_,q,hq,rfl⟩:=h;simp[ais hq]
def aia (X:List (List PI)):fj X (List.range X.length) 0=X.flatten:=by
 have h0:∀i,aB 0 i=false:=λi=>by rw[ua];simp
 have key:∀(Y zzu:List (List PI)),fj (Y++zzu) (List.range' Y.length zzu.length) 0=zzu.flatten:=by
  intro Y zzu
  induction zzu generalizing Y with
  |nil=>rfl
  |cons z zzu ih=>
   have:=ih (Y++[z]);simp only[sm,List.singleton_append,jW,lQ,sq,iL] at this;rw[lQ,It];have e:fj (Y++z::zzu) (Y.length::List.range' (Y.length+1) zzu.length) 0=(Y++z::zzu).getD Y.length []++fj (Y++z::zzu) (List.range' (Y.length+1) zzu.length) 0:=by
        unfold fj;rw[xQ,h0];rfl
   rw[e,this,ZP]
   congr 1
   simp[aL]
 have:=key [] X;simp only[vO,sq] at this;rw[OG];exact this
def aw0 (bo:dJ C)(hΦ:dw C Z):OO C n ids Z (NH C n ids):=by
 intro id ops draw S r hr rd w0 σ0 O O' a w Q hC hY hn hg ar hQ;rw[awZ] at hr;unfold NI at hr;cases aC:tB n ops<;>simp only[aC,zyy,zyx] at hr
 .cases hr
 cases draw with
 |false=>
  simp only[zyx] at hr;cases hgb:abn ops<;>simp only[hgb,zyy,zyx] at hr
  .cases hr
  simp only[aD] at hr;obtain⟨q,hq,rfl⟩:=hr;refine wpIn_region ?_
  have uL:ni ops []=λ_=>False:=by
   funext t;apply propext;constructor
   .rintro⟨i,o,h,_⟩;cases h
   .intro h;exact h.elim
  refine yi hC bo hΦ hY aC (List.range ops.size) [] (by simpa using OF) (λp i q o j want hl ho lq=>?_) hn (by rw[uL];exact hg) hq ar (λa' w' iV gw=>hQ a' w' iV (by
   have:=gw.snapF S.rs.length ids
   rw[show q.1.snap S.rs.length ids=⟨xw (fM q.1) q.1 S.rs (ops.toList.filterMap (·.dst)),ids.map λj=>jr q.1 (q.1.o j)⟩ from by
        unfold St.snap;rw[H3 λt ht=>?_];rw[Qe hq t (λi o hi ho e=>ht (vM.2 ⟨o,by simpa using ja ho,e⟩))];show _=fM q.1 (cP (S.rs.getD t .none));cases S.rs.getD t .none<;>rfl] at this
   exact this))
  have hi:i<ops.size:=by
   have:i∈List.range ops.size:=by rw[hl];simp
   exact cu.1 this
  have hb:=bT.1 hgb i (cu.2 hi);rw[ho] at hb;simp only[lq,jC] at hb;have hp:=List.pairwise_lt_range (n:=ops.size);have wx:j∈List.range ops.size:=cu.2 (by omega);rw[hl,List.pairwise_append] at hp;obtain⟨_,fb,_⟩:=hp;rw[ZT] at fb;rw[hl,dR] at wx;simp only[vO];rcases wx with hm|hm
  .exact hm
  .rcases cQ.1 hm with e|hm
   .omega
   .have:=fb.1 j hm;omega
 |true=>
  simp only[zyy] at hr;cases fV:(BW ops&&SS ops&&C.P.follows .mixedOrders)<;>simp only[fV,zyy,zyx] at hr
  .cases hr
  simp only[av] at fV;have Ch:=fV.1.2
  replace fV:BW ops=true/\C.P.follows .mixedOrders=true:=⟨fV.1.1,fV.2⟩
  have h0:∀i,aB 0 i=false:=λi=>by rw[ua];simp
  split at hr
  case h_1=>
   rename_i r jL;cases hr;generalize y7:qy (dU ops ops.size) ops.size=m at*;unfold abc at jL;rw[y7] at jL;have aqc:m<=ops.size:=y7▸aiL _ _;have Cj:∀i,m<=i->i<ops.size->∀j,j<i->aB ((dU ops ops.size).getD i 0) j=true:=y7▸aiK _ _;rw[aA] at jL;obtain⟨q,hq,jL⟩:=jL;cases wz:E3 ops (rA (q.map (·.2)) m) (dU ops ops.size) m<;>simp only[wz,zyy,zyx] at jL
   .cases jL
   rw[aD] at jL;obtain⟨r1,jN,rfl⟩:=jL;refine wpIn_region_any fV.2 ?_
   have uL:xt ops 0=λ_=>False:=by
        funext t;apply propext;constructor
        .rintro⟨i,o,h,_⟩;rw[h0] at h;cases h
        .intro h;exact h.elim
   have hlen:(q.map (·.2)).length=m:=by rw[fp];exact(QC hq).1
   have ara:tK ops 0=ops.size:=by
        unfold tK;have:((List.range ops.size).filter λi=> !aB 0 i)=List.range ops.size:=List.filter_eq_self.2 λi _=>by rw[h0];rfl
        rw[this,DX]
   have uB:(List.range m).filter (aB 0)=[]:=List.filter_eq_nil_iff.2 λi _=>by rw[h0];simp
   simp only[qv,aA] at ar;obtain⟨ρ1,hρ1,hρ2⟩:=ar;have RI:=wz;unfold E3 at RI;rw[av] at RI;refine am1 (w0:=w0) (S:=S.st ids) hC bo hΦ hY hn aC fV.1 aqc hq wz Cj (O':=ρ1) (λlisted a' w' aJ hl iV gw=>?_) ops.size 0 _ O a _ ara (λj hj=>by rw[h0] at hj;cases hj) (λj _ hj=>by rw[h0] at hj;cases hj) (by simp) (λi=>?_) (.refl _ _) ?_ ?_
   .refine axP hC bo hΦ hY aC fV.1 RI.2 Cj (ops.size-m) m listed (by omega) (bB _) aJ hl (iV.size.trans hn) gw jN hρ2 (λa2 w2 s2 g2=>hQ a2 w2 (iV.trans s2) (by
     have:=g2.snapF S.rs.length ids
     rw[show r1.1.snap S.rs.length ids=⟨xw (fM r1.1) r1.1 S.rs (ops.toList.filterMap (·.dst)),ids.map λj=>jr r1.1 (r1.1.o j)⟩ from by
      unfold St.snap;rw[H3 λt ht=>?_];rw[Qe jN t (λi o hi ho e=>ht (vM.2 ⟨o,by simpa using ja ho,e⟩))]
      have e1:gf ops (q.map (·.1)) (List.range m) (S.st ids).r t=(S.st ids).r t:=H2 λi hi e=>by
        rw[aA] at e;obtain⟨o,ho,hd⟩:=e;exact ht (vM.2 ⟨o,by simpa using ja ho,hd⟩)
      show fM _ (S.rs.getD t .none)=fM _ (gf ops (q.map (·.1)) (List.range m) (S.st ids).r t);rw[e1];show _=fM _ (cP (S.rs.getD t .none));cases S.rs.getD t .none<;>rfl] at this
     exact this))
   .rw[h0];simp only[eG,ajH];split<;>rfl
   .rw[uL,uB];exact hg.drew
   .rw[<-hlen,aia];exact hρ1
  simp only[abD,Snap.hard_eq,aA,aD] at hr;obtain⟨X,hX,T,hT,rfl⟩:=hr;refine wpIn_mono (Q:=λe a w=>(∀c,e≠.panic c)/\Q e a w) ?_ λe a w h=>h.2;refine wpIn_region_any fV.2 ?_
  have uL:z7 ops 0=λ_=>False:=by
   funext t;apply propext;constructor
   .rintro⟨i,o,h,_⟩;rw[h0] at h;cases h
   .intro h;exact h.elim
  have hlen:=ais hX;rw[DX] at hlen
  refine axm (w0:=w0) hC bo hΦ hY hn aC fV.1 (O':=O') Ch (λc a w h=>h.1 c rfl) ops.size hT (λa' w' iV gw=>⟨λc e=>(by cases e),hQ a' w' iV (by
   have:=gw.snapF T.rs.length ids
   rw[show(T.stO ids).snap T.rs.length ids=⟨T.rs.map (fM (T.stO ids)),ids.map λj=>jr (T.stO ids) ((T.stO ids).o j)⟩ from by
        unfold St.snap;have:=H3 (g:=fM (T.stO ids)) (S:=T.stO ids) (rs:=T.rs) (ds:=[]) (λt _=>rfl);rw[<-this];rfl] at this
   exact this)⟩) 0 _ (su.2 rfl) _ O a _ (by simp) (λi=>?_) (.refl _ _) ?_ ?_
  .rw[h0];simp only[eG,ajH];split<;>rfl
  .rw[uL];have:=(hg.drew).snapO S.rs.length ids
   rw[show(S.st ids).snapO S.rs.length ids=⟨S.rs.map λs=>mc (S.st ids) (cP s),ids.map λj=>jr (S.st ids) ((S.st ids).o j)⟩ from by
        unfold St.snapO
        have:=H3 (g:=λs=>mc (S.st ids) (cP s)) (S:=S.st ids) (rs:=S.rs) (ds:=[]) (λt _=>by
         show mc _ (cP (S.rs.getD t .none))=mc _ (cP (cP (S.rs.getD t .none)));cases S.rs.getD t .none<;>rfl)
        have h2:(λt=>mc (S.st ids) (cP ((S.st ids).r t)))=λt=>mc (S.st ids) ((S.st ids).r t):=by
         funext t;show mc _ (cP (cP (S.rs.getD t .none)))=mc _ (cP (S.rs.getD t .none));cases S.rs.getD t .none<;>rfl
        rw[h2] at this;rw[<-this];rfl] at this
   exact this
  .rw[<-hlen,aia];exact ar
end
end Cx
