/-
  Regions: in the order of the text, and in every order that their edges allow.
-/
import Derived.Test.YtefchokhgdmamaaGreatDoorMAG
import Derived.OrdersIn
set_option linter.defProp false
set_option linter.unusedSimpArgs false
set_option linter.unusedVariables false
namespace Cx
open Go Go.RowKit
def mi (S:St):Sh->Sh
 |.opt gs s=>.opt gs (gf S s)
 |s=>gf S s
def St.snapO (n:Nat)(ids:List Nat)(S:St):Snap:=⟨(List.range n).map λt=>mi S (S.r t),ids.map λj=>jr S (S.o j)⟩
def Snap.stO (ids:List Nat)(s:Snap):St:=⟨λt=>s.rs.getD t .none,λj=>eF ids s.os j,λ_=>0⟩
def sD (S:St)(s:Sh):∀gs s',gf S s≠.opt gs s':=by
 intro gs s' e;cases s<;>simp only[gf] at e<;>first|cases e|(revert e;cases Nat.beq _ _<;>intro e<;>cases e)|(revert e;cases List.all _ _<;>intro e<;>cases e)
section
variable {C:Ctx} {S:St} {O:Env} {V:Im} {own:Nat->Option Nat} {hv:Nat->Value} {w0:World} {σ0:Base} {A:Nat->Prop} {a:Act} {w:World} {n:Nat} {ids:List Nat} {Z:aV}
def arl {s:Sh}{v:Value}{d:D}(h:aK C S O V hv s v d){T:St}(hT:T.ver=λ_=>0):aK C T O V hv (mi S s) v d:=by
 have hc:Compat S.norm hv T hv:=⟨λj=>by rw[hT];exact pf _,λ_ _=>rfl⟩
 have key:∀s,aK C S O V hv s v d->aK C T O V hv (gf S s) v d:=λs hs=>aK.mono' (.refl V) hc (sD S s) (LH hs).1;cases s with
 |opt gs s=>exact⟨λhh=>key s (h.1 hh),h.2⟩
 |_=>exact key _ h
def Good.snapO (h:Good C w0 σ0 S O A a w)(n:Nat)(ids:List Nat):Good C w0 σ0 ((S.snapO n ids).stO ids) O A a w:=by
 obtain⟨V,own,hv,h⟩:=h;have h1:=h.norm;have hc:Compat S.norm hv ((S.snapO n ids).stO ids) hv:=⟨λ_=>aY _,λ_ _=>rfl⟩
 refine⟨V,own,hv,h.defers,h.ok,h.le,h.old,h.newc,h.newm,h.below,h.bw,h.owns,λt=>?_,λj=>?_,λt gs s e=>?_,?_⟩
 rotate_right
 .obtain⟨t,fx,cx,f1,f5⟩:=h.frame;refine⟨t,fx,cx,f1,λj hj=>f5 j ?_⟩;exact FG (λj=>jr S (S.o j)) (λob=>ob=.tr->S.o j=.tr) (λe=>by cases e) j acC ids hj
 .show aK C _ O V hv (((List.range n).map λt=>mi S (S.r t)).getD t .none) _ _;rw[aN,cV];by_cases ht:t<n
  .rw[rH ht];exact arl (h.regs t) rfl
  .rw[tB (by simpa using ht)];trivial
 .have ho:=(h1.objs j).mono (.refl V) hc (w:=w) (w':=w) rfl rfl (λk hk=>⟨hk,rfl⟩);exact FG (λj=>jr S (S.o j)) (λob=>cR C _ O V own hv w w0.heap.size j ob) trivial j ho ids
 .change ((List.range n).map λt=>mi S (S.r t)).getD t .none=.opt gs s at e;rw[aN,cV] at e;by_cases ht:t<n
  .rw[rH ht] at e;simp only[lU,nZ] at e;cases hs:S.r t with
   |opt cd s'=>
    rw[hs] at e;simp only[mi,Sh.opt.injEq] at e;obtain⟨rfl,rfl⟩:=e;exact⟨(h.opts t cd s' hs).1,sD S s'⟩
   |none=>rw[hs] at e;exact absurd e (sD S .none gs s)
   |yv=>rw[hs] at e;exact absurd e (sD S .yv gs s)
   |fclo f c=>rw[hs] at e;exact absurd e (sD S (.fclo f c) gs s)
   |agg l=>rw[hs] at e;exact absurd e (sD S (.agg l) gs s)
   |dat t=>rw[hs] at e;exact absurd e (sD S (.dat t) gs s)
   |obj t u=>rw[hs] at e;exact absurd e (sD S (.obj t u) gs s)
   |ptr t u v=>rw[hs] at e;exact absurd e (sD S (.ptr t u v) gs s)
   |eptr t u v x=>rw[hs] at e;exact absurd e (sD S (.eptr t u v x) gs s)
  .rw[tB (by simpa using ht)] at e;cases e
def Good.snapF (h:Good C w0 σ0 S O A a w)(n:Nat)(ids:List Nat):Good C w0 σ0 ((S.snap n ids).st ids) O (λ_=>False) a w:=by
 obtain⟨V,own,hv,h⟩:=h;exact⟨V,own,hv,h.snap n ids⟩
def Good.drew (h:Good C w0 σ0 S O A a w):Good C w0 σ0 S O A a {w with drawn:=w.drawn+1}:=by
 obtain⟨V,own,hv,h⟩:=h;refine⟨V,own,hv,h.defers,⟨λk o v e=>h.ok.c k o v e,λk es e=>h.ok.m k es e⟩,h.le,h.old,h.newc,h.newm,h.below.drew,h.bw,h.owns,h.regs,λj=>?_,h.opts,?_⟩
 rotate_right
 .obtain⟨t,fx,cx,f1,f2⟩:=h.frame;exact⟨t,fx,cx,⟨σ0.keep _ _ _ _ _ f1.F (Below.drew (.refl _ _)) (λ_ _=>rfl),f1.own,f1.c,f1.m,f1.d⟩,f2⟩
 exact(h.objs j).mono (.refl V) (.refl S hv) rfl rfl (λk hk=>⟨hk,rfl⟩)
end
def xh (g:Sh->Sh)(S:St)(rs:List Sh)(ds:List Nat):List Sh:=(ds.foldl (λl d=>l.set d (S.r d)) rs).map g
def Zx (S:St):∀(ds:List Nat) (rs:List Sh),(ds.foldl (λl d=>l.set d (S.r d)) rs).length=rs.length/\∀t,t<rs.length->(ds.foldl (λl d=>l.set d (S.r d)) rs).getD t .none=if t∈ds then S.r t else rs.getD t .none
 |[],rs=>⟨rfl,λt _=>by simp⟩
 |d::ds,rs=>by
  obtain⟨h1,h2⟩:=Zx S ds (rs.set d (S.r d));simp only[NW] at h1 h2;refine⟨h1,λt ht=>?_⟩;rw[HQ,h2 t ht];simp only[cZ,aN,vn];by_cases hm:t∈ds
  .simp[hm]
  .by_cases e:d=t
   .subst e;simp[hm,ht]
   .have e':¬t=d:=λh=>e h.symm;simp[hm,e,e']
def Hk {g:Sh->Sh}{S:St}{rs:List Sh}{ds:List Nat}(h:∀t,t∉ds->g (rs.getD t .none)=g (S.r t)):xh g S rs ds=(List.range rs.length).map λt=>g (S.r t):=by
 obtain⟨h1,h2⟩:=Zx S ds rs;unfold xh;apply NS;intro t;simp only[cV];by_cases ht:t<rs.length
 .have:=h2 t ht;rw[aN,bE (by omega)] at this;rw[bE (by omega),rH ht];simp only[nZ,lU] at this ⊢;rw[this];by_cases hm:t∈ds
  .simp[hm]
  .simp only[hm,if_false];rw[h t hm]
 .rw[tB (by omega),tB (by simpa using ht)];rfl
def Sh.hd {α:Type}(s:Sh)(k:Sh->α):α:=
 match s with
 |.none=>k .none
 |.dat t=>k (.dat t)
 |.obj j v=>k (.obj j v)
 |.ptr j v o=>k (.ptr j v o)
 |.eptr j v z o=>k (.eptr j v z o)
 |.opt gs s=>k (.opt gs s)
 |.yv=>k .yv
 |.fclo f c=>k (.fclo f c)
 |.agg l=>k (.agg l)
def Sh.hd_eq {α:Type}(s:Sh)(k:Sh->α):s.hd k=k s:=by cases s<;>rfl
def Br {α:Type}:List Sh->(List Sh->α)->α
 |[],k=>k []
 |s::l,k=>s.hd λs=>Br l λl=>k (s::l)
def Qd {α:Type}:∀(l:List Sh) (k:List Sh->α),Br l k=k l
 |[],_=>rfl
 |s::l,k=>by rw[Br,Sh.hd_eq,Qd l]
def Ob.hd {α:Type}(s:Ob)(k:Ob->α):α:=
 match s with
 |.dead=>k .dead
 |.fz t=>k (.fz t)
 |.fbox t=>k (.fbox t)
 |.box true l=>Br l λl=>k (.box true l)
 |.box false l=>Br l λl=>k (.box false l)
 |.row T e=>k (.row T e)
 |.mp a b=>k (.mp a b)
 |.it a b=>k (.it a b)
 |.tr=>k .tr
def Ob.hd_eq {α:Type}(s:Ob)(k:Ob->α):s.hd k=k s:=by
 cases s with
 |box ag l=>cases ag<;>simp only[Ob.hd,Qd]
 |_=>rfl
def Kr {α:Type}:List Ob->(List Ob->α)->α
 |[],k=>k []
 |s::l,k=>s.hd λs=>Kr l λl=>k (s::l)
def ZY {α:Type}:∀(l:List Ob) (k:List Ob->α),Kr l k=k l
 |[],_=>rfl
 |s::l,k=>by rw[Kr,Ob.hd_eq,ZY l]
def Snap.hard {α:Type}(s:Snap)(k:Snap->α):α:=Br s.rs λa=>Kr s.os λb=>k ⟨a,b⟩
def Snap.hard_eq {α:Type}(s:Snap)(k:Snap->α):s.hard k=k s:=by rw[Snap.hard,Qd,ZY]
def Ks {α β:Type}:List β->(List β->α)->α
 |[],k=>k []
 |s::l,k=>Ks l λl=>k (s::l)
def Z0 {α β:Type}:∀(l:List β) (k:List β->α),Ks l k=k l
 |[],_=>rfl
 |s::l,k=>by rw[Ks,Z0 l]
def Ez {α β:Type}:List (List β)->(List (List β)->α)->α
 |[],k=>k []
 |s::l,k=>Ks s λs=>Ez l λl=>k (s::l)
def ZZ {α β:Type}:∀(l:List (List β)) (k:List (List β)->α),Ez l k=k l
 |[],_=>rfl
 |s::l,k=>by rw[Ez,Z0,ZZ l]
def aG (P:Program){α:Type}(s:Sem α):Prop:=(∃a,∀w,s.run P w=.ok a w)\/∀w,∃h w',s.run P w=.halt h w'
section
variable {P:Program}
def aG.pure {α:Type}(a:α):aG P (Sem.pure a):=.inl ⟨a,λw=>rfl⟩
def aG.pure' {α:Type}(a:α):aG P (Pure.pure a:Sem α):=.inl ⟨a,λw=>rfl⟩
def aG.halt {α:Type}(h:Halt):aG P (Sem.halt h:Sem α):=.inr λw=>⟨h,w,rfl⟩
def aG.bind' {α β:Type}{s:Sem α}{f:α->Sem β}(h:aG P s)(hf:∀a,(∀w,s.run P w=.ok a w)->aG P (f a)):aG P (s>>=f):=by
 rcases h with⟨a,ha⟩|hd
 .rcases hf a ha with⟨b,hb⟩|hd
  .exact .inl ⟨b,λw=>by rw[Sem.run_bind,ha w];exact hb w⟩
  .refine .inr λw=>?_;obtain⟨x,w',e⟩:=hd w;exact⟨x,w',by rw[Sem.run_bind,ha w];exact e⟩
 .refine .inr λw=>?_;obtain⟨x,w',e⟩:=hd w;exact⟨x,w',by rw[Sem.run_bind,e];rfl⟩
def aG.bind {α β:Type}{s:Sem α}{f:α->Sem β}(h:aG P s)(hf:∀a,aG P (f a)):aG P (s>>=f):=h.bind' λa _=>hf a
def cM {α:Type}(s:Sem α):Prop:=∀P w,∃h w',s.run P w=.halt h w'
def cM.noW {α:Type}{s:Sem α}(h:cM s):aG P s:=.inr (h P)
def cM.halt {α:Type}(h:Halt):cM (Sem.halt h:Sem α):=λP w=>⟨h,w,rfl⟩
def cM.of_bind {α β:Type}{s:Sem α}{f:α->Sem β}(hf:∀a,cM (f a)):cM (s>>=f):=by
 intro P w;rw[Sem.run_bind];cases e:s.run P w with
 |ok a w'=>exact hf a P w'
 |halt h w'=>exact⟨h,w',rfl⟩
def aG.asBool (v:Value):aG P (Go.asBool v):=by
 cases v<;>first|exact .pure _|exact .halt _
def aG.asIntOf (v:Value):aG P (Go.asIntOf v):=by
 unfold Go.asIntOf;split<;>first|exact .pure _|exact .halt _
def aG.sureAddr (v:Value):aG P (Instr.sureAddr v):=by
 unfold Instr.sureAddr;split<;>first|exact .pure _|exact .halt _
def aG.prog:aG P Go.program:=.inl ⟨P,λw=>rfl⟩
def aG.underlying (t:TypeId):aG P (Go.underlying t):=by
 unfold Go.underlying;refine .bind .prog λp=>?_;split<;>first|exact .pure _|exact .halt _
def aG.sizeOf (t:TypeId):aG P (Go.sizeOf t):=by
 unfold Go.sizeOf Go.typeInfo;refine .bind (.bind .prog λp=>?_) λ_=>.pure _;split<;>first|exact .pure _|exact .halt _
def cM.runtimePanic {α:Type}(e:RuntimeError):cM (Go.runtimePanic e:Sem α):=by
 unfold Go.runtimePanic;refine .of_bind λp=>?_;cases e<;>first|exact .halt _|exact .of_bind λ_=>.halt _|exact .of_bind λ_=>.of_bind λ_=>.halt _
def cM.boundsPanic {α:Type}(k:IntKind)(x y:Int)(c:BoundsCode):cM (Go.boundsPanic k x y c:Sem α):=by
 unfold Go.boundsPanic;dsimp only;split<;>exact .of_bind λ_=>.runtimePanic _
def aG.indexAt (t:TypeId)(x i:Value):aG P (Instr.indexAt t x i):=by
 unfold Instr.indexAt
 repeat' (first|(first|exact aG.pure _|exact aG.pure' _|exact aG.halt _|exact cM.noW (cM.boundsPanic _ _ _ _)|exact cM.noW (cM.runtimePanic _)|exact aG.prog|exact aG.underlying _|exact aG.sizeOf _|exact aG.asIntOf _|exact aG.sureAddr _|exact aG.asBool _)|(refine aG.bind ?_ λ_=>?_)|dsimp only|split)
def aG.sliceBound (x:Value)(y:Nat)(c:BoundsCode):aG P (Instr.sliceBound x y c):=by
 unfold Instr.sliceBound
 repeat' (first|(first|exact aG.pure _|exact aG.pure' _|exact aG.halt _|exact cM.noW (cM.boundsPanic _ _ _ _)|exact cM.noW (cM.runtimePanic _)|exact aG.prog|exact aG.underlying _|exact aG.sizeOf _|exact aG.asIntOf _|exact aG.sureAddr _|exact aG.asBool _)|(refine aG.bind ?_ λ_=>?_)|dsimp only|split)
def aG.sliceBounds (b:Bool)(n m:Nat)(lo hi mx:Option Value):aG P (Instr.sliceBounds b n m lo hi mx):=by
 unfold Instr.sliceBounds
 repeat' (first|exact aG.sliceBound _ _ _|(first|exact aG.pure _|exact aG.pure' _|exact aG.halt _|exact cM.noW (cM.boundsPanic _ _ _ _)|exact cM.noW (cM.runtimePanic _)|exact aG.prog|exact aG.underlying _|exact aG.sizeOf _|exact aG.asIntOf _|exact aG.sureAddr _|exact aG.asBool _)|(refine aG.bind ?_ λ_=>?_)|dsimp only|split)
def aG.asAddr (v:Value):aG P (Go.asAddr v):=by
 unfold Go.asAddr
 repeat' (first|(first|exact aG.pure _|exact aG.pure' _|exact aG.halt _|exact cM.noW (cM.boundsPanic _ _ _ _)|exact cM.noW (cM.runtimePanic _)|exact aG.prog|exact aG.underlying _|exact aG.sizeOf _|exact aG.asIntOf _|exact aG.sureAddr _|exact aG.asBool _)|(refine aG.bind ?_ λ_=>?_)|dsimp only|split)
def aG.slice (t:TypeId)(x:Value)(lo hi mx:Option Value):aG P (Instr.slice t x lo hi mx):=by
 unfold Instr.slice
 repeat' (first|exact aG.sliceBounds _ _ _ _ _ _|exact aG.asAddr _|(first|exact aG.pure _|exact aG.pure' _|exact aG.halt _|exact cM.noW (cM.boundsPanic _ _ _ _)|exact cM.noW (cM.runtimePanic _)|exact aG.prog|exact aG.underlying _|exact aG.sizeOf _|exact aG.asIntOf _|exact aG.sureAddr _|exact aG.asBool _)|(refine aG.bind ?_ λ_=>?_)|dsimp only|split)
def aG.sliceAt (t:TypeId)(x:Value)(lo hi mx:Option Value):aG P (Instr.sliceAt t x lo hi mx):=by
 unfold Instr.sliceAt
 repeat' (first|exact aG.sliceBounds _ _ _ _ _ _|exact aG.slice _ _ _ _ _|(first|exact aG.pure _|exact aG.pure' _|exact aG.halt _|exact cM.noW (cM.boundsPanic _ _ _ _)|exact cM.noW (cM.runtimePanic _)|exact aG.prog|exact aG.underlying _|exact aG.sizeOf _|exact aG.asIntOf _|exact aG.sureAddr _|exact aG.asBool _)|(refine aG.bind ?_ λ_=>?_)|dsimp only|split)
def US (P:Program)(s:TypeId)(i:Nat):Bool:=
 match P.underlying s with
 |some (.struct fs)=>(match fs[i]? with
  |some f=>(match P.info? f.type with|some d=> !Nat.beq d.size 0|none=>false)
  |none=>false)
 |_=>false
def aG.fieldAt {s:TypeId}{i:Nat}(h:US P s i=true)(a:Value):aG P (Instr.fieldAt s a i):=by
 unfold Instr.fieldAt;refine .bind' (.underlying _) λd hd=>?_;have hu:P.underlying s=some d:=by
  have:=hd default;unfold Go.underlying at this;rw[Sem.run_bind] at this;change Result.andThen (.ok P default) _=_ at this;simp only[Result.andThen_ok] at this;cases hp:P.underlying s with
  |none=>rw[hp] at this;cases this
  |some d'=>
   rw[hp] at this;change Result.ok d' default=_ at this;cases this;rfl
 unfold US at h;rw[hu] at h;cases d<;>dsimp only at h ⊢<;>try (first|exact aG.pure _|exact aG.pure' _|exact aG.halt _|exact cM.noW (cM.boundsPanic _ _ _ _)|exact cM.noW (cM.runtimePanic _)|exact aG.prog|exact aG.underlying _|exact aG.sizeOf _|exact aG.asIntOf _|exact aG.sureAddr _|exact aG.asBool _)
 rename_i fs;cases hf:fs[i]? with
 |none=>dsimp only;(first|exact aG.pure _|exact aG.pure' _|exact aG.halt _|exact cM.noW (cM.boundsPanic _ _ _ _)|exact cM.noW (cM.runtimePanic _)|exact aG.prog|exact aG.underlying _|exact aG.sizeOf _|exact aG.asIntOf _|exact aG.sureAddr _|exact aG.asBool _)
 |some f=>
  rw[hf] at h;dsimp only at h ⊢;refine .bind (.sureAddr _) λa=>.bind ?_ λ_=>.pure _;unfold Go.fieldPlace;refine .bind' (.sizeOf _) λn hn=>?_;have hz:n≠0:=by
   intro e;have:=hn default;unfold Go.sizeOf Go.typeInfo at this;cases hi:P.info? f.type with
   |none=>rw[hi] at h;cases h
   |some inf=>
    rw[hi] at h;rw[Sem.run_bind,Sem.run_bind] at this;change Result.andThen (Result.andThen (.ok P default) _) _=_ at this;simp only[Result.andThen_ok,hi] at this;change Result.ok inf.size default=_ at this;cases this;dsimp only at h;rw[e] at h;cases h
  rw[if_neg hz]
  (first|exact aG.pure _|exact aG.pure' _|exact aG.halt _|exact cM.noW (cM.boundsPanic _ _ _ _)|exact cM.noW (cM.runtimePanic _)|exact aG.prog|exact aG.underlying _|exact aG.sizeOf _|exact aG.asIntOf _|exact aG.sureAddr _|exact aG.asBool _)
def F1 (P:Program):Op->Bool
 |.move _=>true
 |.assign _=>true
 |.pick ..=>true
 |.fieldAddr s _ i=>US P s i
 |.indexAddr ..=>true
 |.slice ..=>true
 |_=>false
def asF {o:Oper}(hp:F1 P o.op=true)(O:Operand->Value):(∃v,∀w,(execOp O o).run P w=.ok (.value v) w)\/∀w,∃h w',(execOp O o).run P w=.halt h w':=by
 have key:∀s:Sem Value,aG P s->(∃v,∀w,(do Pure.pure (Next.value (<-s)):Sem Next).run P w=.ok (.value v) w)\/∀w,∃h w',(do Pure.pure (Next.value (<-s)):Sem Next).run P w=.halt h w':=by
  intro s hs;rcases hs with⟨a,ha⟩|hd
  .exact .inl ⟨a,λw=>by rw[Sem.run_bind,ha w];rfl⟩
  .refine .inr λw=>?_;obtain⟨x,w',e⟩:=hd w;exact⟨x,w',by rw[Sem.run_bind,e];rfl⟩
 obtain⟨dst,op,type,pos,after,guard⟩:=o;cases op<;>first|(cases hp;done)|skip
 case move x=>exact .inl ⟨_,λw=>rfl⟩
 case assign x=>exact .inl ⟨_,λw=>rfl⟩
 case pick c a b=>
  have:=key (do Pure.pure (if<-Go.asBool (O c) then O a else O b)) (.bind (.asBool _) λ_=>.pure _);simp only[execOp];rcases aG.asBool (P:=P) (O c) with⟨t,ht⟩|hd
  .exact .inl ⟨_,λw=>by rw[Sem.run_bind,ht w];rfl⟩
  .refine .inr λw=>?_;obtain⟨x,w',e⟩:=hd w;exact⟨x,w',by rw[Sem.run_bind,e];rfl⟩
 case fieldAddr s x i=>exact key _ (.fieldAt hp _)
 case indexAddr t x i=>exact key _ (.indexAt _ _ _)
 case slice t x lo hi mx=>exact key _ (.sliceAt _ _ _ _ _)
def asG {rd:Option Nat}{ops:Array Oper}{i:Nat}{o:Oper}{a:Act}{w:World}{K:Act->World->Prop}(hi:ops[i]?=some o)(hp:F1 P o.op=true)
 (h:wpOpIn (FR rd) 0 P ops (λ_ _ _=>False) i K a w):∃v,YieldsFenced P ops o v a/\K (a.put o.dst v) w:=by
 have bn:∀c,o.op≠.defer c:=λc e=>by rw[e] at hp;cases hp
 have Eu:∀w,o.about P w a.eval=none:=λw=>by
  unfold Oper.about;cases ho:o.op<;>first|rfl|(rw[ho] at hp;cases hp)
 unfold wpOpIn at h;rw[hi] at h;dsimp only at h;cases hw:Region.wanted o (yielded ops a.tmps) with
 |false=>
  rw[hw] at h;exact⟨undef,⟨.inr ⟨hw,rfl⟩,Eu⟩,h.2⟩
 |true=>
  rw[hw,if_pos rfl] at h;have h2:=h.2;rw[Oper.semAt_eq _ _ _ bn] at h2;rcases asF hp a.eval with⟨v,hv⟩|hd
  .rw[hv w] at h2;exact⟨v,⟨.inl ⟨hw,hv⟩,Eu⟩,h2⟩
  .obtain⟨x,w',e⟩:=hd w;rw[e] at h2;cases x<;>exact h2.elim
section
variable {F:Fence} {n:Nat} {ops:Array Oper} {Q:Exit->Act->World->Prop} {md:Region.Mode}
def YF.wpOpIn {i:Nat}{o:Oper}{v:Value}{a:Act}(bn:pU o.op=true)(hi:ops[i]?=some o)(hy:YieldsFenced P ops o v a)
 {K:Act->World->Prop} {w:World} (h:K (a.put o.dst v) w):wpOpIn F n P ops Q i K a w:=by
 have kP:∀c,o.op≠.defer c:=λc e=>by rw[e] at bn;cases bn
 unfold Go.wpOpIn;simp only[hi];have Eu:∀f,o.about P w a.eval=some f->F.fn f:=λf hf=>by rw[hy.2 w] at hf;cases hf
 rcases hy.1 with⟨hw,hv⟩|⟨hw,rfl⟩
 .simp only[hw,if_true,Oper.wpIn,Oper.semAt_eq _ _ _ kP,hv w,Oper.uponIn];exact⟨Eu,h⟩
 .simp only[hw,xA,if_false];exact⟨Eu,h⟩
def axJ {j:Nat}{oi oj:Oper}{v:Value}(bn:pU oj.op=true)(hj:ops[j]?=some oj)(kc:oi.apart ops oj=true)
 (hsi:∀cs b,oi.op≠.select cs b) (hsj:∀cs b,oj.op≠.select cs b)
 (hQ:∀c a w,Q (.panic c) (a.put oi.dst v) w->Q (.panic c) a w) {K:Act->World->Prop} {a:Act} {w:World}
 (hy:YieldsFenced P ops oi v a) (h:wpOpIn F n P ops Q j K (a.put oi.dst v) w):
 wpOpIn F n P ops Q j (λa' w'=>YieldsFenced P ops oi v a'/\K (a'.put oi.dst v) w') a w:=by
 have kP:∀c,oj.op≠.defer c:=λc e=>by rw[e] at bn;cases bn
 obtain⟨h1,h2,h3⟩:=Oper.apart_spec kc;have keep:∀(a:Act),YieldsFenced P ops oi v a->∀u,YieldsFenced P ops oi v (a.put oj.dst u):=λa hy u=>
  hy.of_same (execOp_put oi hsi a oj.dst u h3) (wanted_put oi a oj.dst u h3) (λw=>about_put oi w a oj.dst u h3)
 have apj:∀d,YieldsFenced P ops oi v {a with defers:=d::a.defers}:=λd=>hy.of_same rfl rfl (λ_=>rfl);unfold Go.wpOpIn at*;simp only[hj] at*;rw[wanted_put oj a oi.dst v h1,about_put oj w a oi.dst v h1] at h;split
 .rename_i hw;simp only[hw,if_true] at h;unfold Oper.wpIn at*;rw[about_put oj w a oi.dst v h1] at h;refine⟨h.1,?_⟩;have h:=h.2;rw[Oper.semAt_eq _ _ _ kP,execOp_put oj hsj a oi.dst v h1] at h;rw[Oper.semAt_eq _ _ _ kP];generalize (execOp a.eval oj).run P w=r at*;cases r with
  |ok x w'=>
   cases x<;>simp only[Oper.uponIn] at h ⊢
   case value u=>exact⟨keep a hy u,by rw[<-Act.put_comm a v u h2];exact h⟩
   case skip=>exact⟨keep a hy _,by rw[<-Act.put_comm a v undef h2];exact h⟩
   case defer d=>
        refine⟨keep _ (apj d) _,?_⟩;rw[<-Act.put_comm _ v undef h2,<-Act.put_defers];exact h
   case enter f args=>
        refine⟨h.1,CallsIn.mono h.2 λe lO he=>?_⟩;cases e with
        |returned u=>exact⟨keep a hy u,by rw[<-Act.put_comm a v u h2];exact he⟩
        |panicked c=>exact hQ _ _ _ he
        |outgrown=>exact he
   case row row args=>exact⟨h.1,RowsIn.mono h.2 λu lO he=>⟨keep a hy u,by rw[<-Act.put_comm a v u h2];exact he⟩⟩
   case round l f tmps assign body=>
        refine⟨h.1,RoundIn.mono h.2 λe lO he=>?_⟩;cases e with
        |returned u=>exact⟨keep a hy u,by rw[<-Act.put_comm a v u h2];exact he⟩
        |panicked c=>exact hQ _ _ _ he
        |outgrown=>exact he
  |halt x w'=>
   cases x<;>simp only[Oper.uponIn] at h ⊢
   case panic u=>exact hQ _ _ _ h
 .rename_i hw;simp only[hw] at h;exact⟨h.1,keep a hy _,by rw[<-Act.put_comm a v undef h2];exact h.2⟩
def axI {i:Nat}{oi:Oper}{v:Value}(bn:∀(j:Nat) (o:Oper),ops[j]?=some o->pU o.op=true)(hi:ops[i]?=some oi)(BN:∀(j:Nat) (o:Oper) cs b,ops[j]?=some o->o.op≠.select cs b)
 (hQ:∀c a w,Q (.panic c) (a.put oi.dst v) w->Q (.panic c) a w):
 ∀(fuel:Nat) (listed:Array Bool) (a:Act) (w:World),
  (∀j oj,ops[j]?=some oj->j≠i->listed.getD j true=false->(∀e∈oj.after,Region.binds md e=true->e.on≠i)->oi.apart ops oj=true)->
  i∈Region.ready md ops listed->YieldsFenced P ops oi v a->
  wpAnyIn F n P md ops Q fuel (listed.setIfInBounds i true) (a.put oi.dst v) w->wpAnyIn F n P md ops Q (fuel+1) listed a w:=by
 intro fuel
 induction fuel with
 |zero=>
  intro listed a w _ hr hy zyz;refine⟨λh=>(by rw[h] at hr;cases hr),λj hj=>?_⟩;by_cases fq:j=i
  .subst fq;exact YF.wpOpIn (bn _ _ hi) hi hy zyz
  .have:=ready_mono hj fq;rw[zyz.1] at this;cases this
 |succ fuel ih=>
  intro listed a w ou hr hy zyz;refine⟨λh=>(by rw[h] at hr;cases hr),λj hj=>?_⟩;by_cases fq:j=i
  .subst fq;exact YF.wpOpIn (bn _ _ hi) hi hy zyz
  .have h1:=zyz.2 j (ready_mono hj fq);obtain⟨aat,oj,sr,aI⟩:=mem_ready.1 hj
   have QR:∀e∈oj.after,Region.binds md e=true->e.on≠i:=λe he hb heq=>by
        have h1:=aI e he hb;have h0:=(mem_ready.1 hr).1;rw[heq] at h1;rcases H2 i listed.size with h'|h'
        .simp[h'] at h0 h1;rw[h0] at h1;cases h1
        .simp[Array.getElem?_eq_none h'] at h1
   have h2:=axJ (bn _ _ sr) sr (ou j oj sr fq aat QR) (λcs b=>BN i oi cs b hi) (λcs b=>BN j oj cs b sr) hQ hy h1;have anb:∀k ok,ops[k]?=some ok->k≠i->(listed.setIfInBounds j true).getD k true=false->
    (∀e∈ok.after,Region.binds md e=true->e.on≠i)->oi.apart ops ok=true:=λk ok hk hki oG eY=>by
        refine ou k ok hk hki ?_ eY;by_cases yu:j=k
        .subst yu;exact aat
        .rw[getD_set_ne true yu] at oG;exact oG
   refine wpOpIn_mono (λa' w' h3=>ih (listed.setIfInBounds j true) a' w' anb (ready_mono hr (tH fq)) h3.1 ?_) h2;rw[Array.setIfInBounds_comm _ _ fq];exact h3.2
end
end
def tL (P:Program)(ops:Array Oper):List (Option (List Nat)):=(List.range ops.size).map λi=>match ops[i]? with
 |some oi=>bif F1 P oi.op then some ((List.range ops.size).filter λj=> !(Nat.beq j i||(match ops[j]? with|some oj=>(oj.after.toList.any λe=>Region.binds .any e&&Nat.beq e.on i)||oi.apart ops oj|none=>true))) else none
 |none=>none
def C2 (bad:List (Option (List Nat)))(E:Nat):List Nat->Option Nat
 |[]=>none
 |i::l=>match bad.getD i none with
  |some b=>bif b.all (ay E) then some i else C2 bad E l
  |none=>C2 bad E l
def R5 (ops:Array Oper):Bool:=ops.toList.all λo=>match o.op with|.select ..=>false|_=>true
def Nm {bad:List (Option (List Nat))}{E:Nat}:∀{l:List Nat} {i:Nat},C2 bad E l=some i->i∈l/\∃b,bad.getD i none=some b/\b.all (ay E)=true
 |[],_,h=>by cases h
 |i::l,j,h=>by
  unfold C2 at h;split at h
  .rename_i b hb;cases hc:b.all (ay E) with
   |true=>
    rw[hc] at h;cases h;exact⟨er ..,b,hb,hc⟩
   |false=>
    rw[hc] at h;obtain⟨h1,h2⟩:=Nm h;exact⟨dW _ h1,h2⟩
  .obtain⟨h1,h2⟩:=Nm h;exact⟨dW _ h1,h2⟩
def aiD {P:Program}{ops:Array Oper}{i:Nat}{b:List Nat}(h:(tL P ops).getD i none=some b):∃oi,ops[i]?=some oi/\F1 P oi.op=true/\
 ∀j oj,ops[j]?=some oj->j≠i->j∉b->(∀e∈oj.after,Region.binds .any e=true->e.on≠i)->oi.apart ops oj=true:=by
 unfold tL at h;rw[aN,cV] at h;by_cases hi:i<ops.size
 .rw[rH hi] at h;simp only[lU,nZ] at h;rw[eT hi] at h;dsimp only at h;cases hp:F1 P ops[i].op<;>rw[hp] at h<;>simp only[zyx,zyw] at h
  .cases h
  injection h with h
  refine⟨ops[i],eT hi,hp,λj oj hj fq KM eY=>?_⟩;have ah:j<ops.size:=(dV.1 hj).1;rw[<-h] at KM;have h2:¬(!(Nat.beq j i||(match ops[j]? with|some oj=>(oj.after.toList.any λe=>Region.binds .any e&&Nat.beq e.on i)||ops[i].apart ops oj|none=>true)))=true:=λhc=>KM (eW.2 ⟨cm.2 ah,hc⟩);rw[hj,fS fq] at h2;simp only[rF,iY,Bool.not_eq_false,fQ] at h2;rcases h2 with h2|h2
  .obtain⟨e,he,hb⟩:=tz.1 h2;rw[aq] at hb;exact absurd (dq hb.2) (eY e (by simpa using he) hb.1)
  .exact h2
 .rw[tB (by simpa using hi)] at h;cases h
def Fz (E:Nat)(T:Snap):List (Nat×Snap)->Option (List (Nat×Snap))
 |[]=>some [(E,T)]
 |x::l=>bif Nat.beq x.1 E then(bif x.2.beq T then some (x::l) else none) else(Fz E T l).map (x::·)
def m8 (ops:Array Oper)(E:Nat):List Nat:=
 (List.range ops.size).filter λi=> !ay E i&&(match ops[i]? with|some o=>o.after.toList.all λe=> !Region.binds .any e||ay E e.on|none=>false)
def SQ (C:Ctx)(ops:Array Oper)(n:Nat)(ids:List Nat)(X:List (List PI))(nc:List (List Nat))(E:Nat)(T:Snap)(i:Nat):Option (Nat×Snap):=
 match ops[i]? with
 |some o=>(qs C (T.stO ids) ops o).bind λr=>
  bif PI.beqs r.2 (X.getD i [])&&(nc.getD i []).all (ay E) then some (Nat.lor E (eI i),⟨xh (mi r.1) r.1 T.rs o.dst.toList,ids.map λj=>jr r.1 (r.1.o j)⟩) else none
 |none=>none
def Hl (one:Nat->Option (Nat×Snap)):List Nat->List (Nat×Snap)->Option (List (Nat×Snap))
 |[],acc=>some acc
 |i::l,acc=>(one i).bind λx=>x.2.hard λT=>(Fz x.1 T acc).bind λacc=>Hl one l acc
def qq (ops:Array Oper)(bad:List (Option (List Nat)))(E:Nat):List Nat:=
 match C2 bad E (m8 ops E) with
 |some i=>[i]
 |none=>m8 ops E
def FE (ops:Array Oper)(bad:List (Option (List Nat)))(one:Nat->Snap->Nat->Option (Nat×Snap)):List (Nat×Snap)->List (Nat×Snap)->Option (List (Nat×Snap))
 |[],acc=>some acc
 |x::l,acc=>
  match qq ops bad x.1 with
  |[]=>none
  |rs=>(Hl (one x.1 x.2) rs acc).bind λacc=>FE ops bad one l acc
def Hf (ops:Array Oper)(bad:List (Option (List Nat)))(one:Nat->Snap->Nat->Option (Nat×Snap)):Nat->List (Nat×Snap)->Option Snap
 |0,L=>
  match L with
  |[x]=>bif (List.range ops.size).all (ay x.1) then some x.2 else none
  |_=>none
 |k+1,L=>(FE ops bad one L []).bind λL=>Hf ops bad one k L
def abp {E:Nat}{T:Snap}:∀{l l':List (Nat×Snap)},Fz E T l=some l'->(E,T)∈l'/\∀x,x∈l->x∈l'
 |[],l',h=>by simp only[Fz,aS] at h;subst h;simp
 |x::l,l',h=>by
  simp only[Fz] at h;cases hb:Nat.beq x.1 E<;>simp only[hb,zyx,zyw] at h
  .simp only[aC] at h;obtain⟨l2,h2,rfl⟩:=h;obtain⟨h3,h4⟩:=abp h2;exact⟨dW _ h3,λy hy=>(cZ.1 hy).elim (λe=>e▸er ..) λhm=>dW _ (h4 y hm)⟩
  .cases hs:x.2.beq T<;>simp only[hs,zyx,zyw] at h
   .cases h
   .cases h;refine⟨?_,λy hy=>hy⟩;have e1:=dq hb;have e2:=Snap.beq_eq _ _ hs;subst e1;subst e2;simp
def agp {one:Nat->Option (Nat×Snap)}:∀{rs:List Nat} {acc Dm:List (Nat×Snap)},Hl one rs acc=some Dm->(∀x,x∈acc->x∈Dm)/\∀i,i∈rs->∃x,one i=some x/\x∈Dm
 |[],acc,Dm,h=>by simp only[Hl,aS] at h;subst h;simp
 |i::rs,acc,Dm,h=>by
  simp only[Hl,Snap.hard_eq,aw] at h;obtain⟨x,hx,ahZ,h1,h2⟩:=h;obtain⟨h3,h4⟩:=abp h1;obtain⟨h5,h6⟩:=agp h2;refine⟨λy hy=>h5 y (h4 y hy),λj hj=>?_⟩;rcases cZ.1 hj with e|hm
  .subst e;exact⟨x,hx,h5 _ h3⟩
  .exact h6 j hm
def abK {ops:Array Oper}{bad:List (Option (List Nat))}{one:Nat->Snap->Nat->Option (Nat×Snap)}:∀{L acc L':List (Nat×Snap)},FE ops bad one L acc=some L'->
 (∀x,x∈acc->x∈L')/\∀x,x∈L->qq ops bad x.1≠[]/\∀i,i∈qq ops bad x.1->∃y,one x.1 x.2 i=some y/\y∈L'
 |[],acc,L',h=>by simp only[FE,aS] at h;subst h;simp
 |x::L,acc,L',h=>by
  simp only[FE] at h;split at h
  .cases h
  .rename_i aB;simp only[aw] at h;obtain⟨ahZ,h1,h2⟩:=h;obtain⟨h3,h4⟩:=agp h1;obtain⟨h5,h6⟩:=abK h2;refine⟨λy hy=>h5 y (h3 y hy),λy hy=>?_⟩;rcases cZ.1 hy with e|hm
   .subst e;refine⟨λe=>aB e,λi hi=>?_⟩;obtain⟨z,hz,hm⟩:=h4 i hi;exact⟨z,hz,h5 z hm⟩
   .exact h6 y hm
def fC (X:List (List PI))(l:List Nat)(E:Nat):List PI:=l.flatMap λi=>bif ay E i then[] else X.getD i []
def UD {X:List (List PI)}{E E':Nat}:∀(l:List Nat),(∀i,i∈l->ay E i=ay E' i)->fC X l E=fC X l E'
 |[],_=>rfl
 |i::l,h=>by
  have ih:=UD (X:=X) l λj hj=>h j (dW _ hj);unfold fC at ih ⊢;simp only[tA];rw[ih,h i (er ..)]
def Foot.comm_each {a b:List PI}(h:(jd a).comm (jd b)=true):∀p q,p∈a->q∈b->Comm p q:=by
 simp only[Foot.comm,aq] at h;obtain⟨h1,h2,h3,h4,h5,h6⟩:=h;intro p q hp hq;obtain⟨p1,p2,p3,p4⟩:=Zy hp;obtain⟨q1,q2,q3,q4⟩:=Zy hq;exact⟨λt x y=>RL h1 (p1 t x) (q1 t y),λt x y=>RL h2 (p1 t x) (q3 t y),λt x y=>RL h3 (q1 t x) (p3 t y),λt x y=>Ok h4 (p2 t x) (q2 t y),λt x y=>Ok h5 (p2 t x) (q4 t y),λt x y=>Ok h6 (q2 t x) (p4 t y)⟩
def q6 (X:List (List PI))(N:Nat):List (List Nat):=
 (List.range N).map λi=>(List.range i).filter λj=> !(jd (X.getD j [])).comm (jd (X.getD i []))
def j4 (E i j:Nat):ay (Nat.lor E (eI i)) j=(ay E j||Nat.beq i j):=by
 rw[gu]
 congr 1
 rw[tP];show(1<<<i).testBit j=_;rw[Nat.testBit_shiftLeft];by_cases h:i=j
 .subst h;simp
 .have h1:Nat.beq i j=false:=fS h;rw[h1];by_cases h2:i<=j
  .have:j-i≠0:=by omega
   cases hk:j-i with
   |zero=>omega
   |succ k=>
    have:(1:Nat).testBit (k+1)=false:=by simp[Nat.testBit_succ]
    simp[this]
  .simp[h2]
def afQ {X:List (List PI)}{N E i:Nat}(hi:i<N)(hb:ay E i=false)(dD:((q6 X N).getD i []).all (ay E)=true)(Z:aV)(O:Env):
 PI.runs Z (fC X (List.range N) E) O=(PI.runs Z (X.getD i []) O).bind (PI.runs Z (fC X (List.range N) (Nat.lor E (eI i)))):=by
 obtain⟨l1,l2,hl⟩:=NQ (cm.2 hi);have hp:=List.pairwise_lt_range (n:=N);rw[hl,HX] at hp;obtain⟨_,gy,hp3⟩:=hp;rw[xF] at gy;have lt1:∀j,j∈l1->j<i:=λj hj=>hp3 j hj i (er ..);have lt2:∀j,j∈l2->i<j:=λj hj=>gy.1 j hj;have e0:∀E,fC X (l1++i::l2) E=fC X l1 E++((bif ay E i then[] else X.getD i [])++fC X l2 E):=λE=>by simp[fC]
 have e1:fC X l1 (Nat.lor E (eI i))=fC X l1 E:=UD l1 λj hj=>by
  rw[j4,fS (by have:=lt1 j hj;omega),vj]
 have e2:fC X l2 (Nat.lor E (eI i))=fC X l2 E:=UD l2 λj hj=>by
  rw[j4,fS (by have:=lt2 j hj;omega),vj]
 have e3:ay (Nat.lor E (eI i)) i=true:=by rw[j4,ja,oY]
 rw[hl,e0,e0,e1,e2,e3,hb];simp only[zyx,zyw,tG]
 have amR:PI.runs Z (fC X l1 E++X.getD i [])=PI.runs Z (X.getD i []++fC X l1 E):=funext λO=>PI.comms _ _ (λp q hp hq=>by
  unfold fC at hp;obtain⟨j,hj,hp⟩:=iM.1 hp;cases qC:ay E j<;>simp only[qC,zyx,zyw] at hp
  case true=>cases hp
  have hc:(jd (X.getD j [])).comm (jd (X.getD i []))=true:=by
   cases l5:(jd (X.getD j [])).comm (jd (X.getD i [])) with
   |true=>rfl
   |false=>
    have qH:(q6 X N).getD i []=(List.range i).filter λj=> !(jd (X.getD j [])).comm (jd (X.getD i [])):=by
     unfold q6;rw[aN,cV,rH hi];rfl
    rw[qH] at dD;have:=bJ.1 dD j (eW.2 ⟨cm.2 (lt1 j hj),by rw[l5];rfl⟩);rw[qC] at this;cases this
  exact Foot.comm_each hc p q hp hq) O
 rw[<-kD,p9,amR];have:=p9 (Z:=Z) (a:=X.getD i []) (b:=fC X l1 E) (O:=O);rw[this,Option.bind_assoc]
 congr 1
 funext ρ1;rw[p9]
def oS (C:Ctx)(ops:Array Oper):List Nat->St->Option (List (List PI))
 |[],_=>some []
 |i::l,S=>
  match ops[i]? with
  |some o=>(qs C S ops o).bind λr=>(oS C ops l r.1).map λq=>r.2::q
  |none=>none
def ZG (ops:Array Oper):Bool:=(List.range ops.size).all λi=>match ops[i]? with
 |some o=>(match o.guard with|some (j,_)=>Nat.blt j i|none=>true)
 |none=>true
def Bl (ops:Array Oper):Bool:=ops.toList.all λo=>match o.guard with
 |some (j,_)=>o.after.toList.any λe=>Region.binds .any e&&Nat.beq e.on j
 |none=>true
def bL:Operand->List Nat
 |.tmp t=>[t]
 |_=>[]
def C5:Option Operand->List Nat
 |some x=>bL x
 |none=>[]
def mW:Op->List Nat
 |.move x=>bL x
 |.assign x=>bL x
 |.unOp _ _ x=>bL x
 |.convert _ _ x=>bL x
 |.load _ x=>bL x
 |.fieldAddr _ x _=>bL x
 |.field _ x _=>bL x
 |.extract x _=>bL x
 |.nilCheck x=>bL x
 |.pick c x y=>bL c++bL x++bL y
 |.binOp _ _ x y _=>bL x++bL y
 |.indexAddr _ x i=>bL x++bL i
 |.index _ x i=>bL x++bL i
 |.lookup _ m k _=>bL m++bL k
 |.slice _ x lo hi _=>bL x++C5 lo++C5 hi
 |.build _ ps=>ps.toList.flatMap λp=>bL p.2
 |.call c=>(match c.callee with|.value x=>bL x|_=>[])++c.args.toList.flatMap bL
 |.store _ x v=>bL x++bL v
 |.mapUpdate _ m k v=>bL m++bL k++bL v
 |_=>[]
def Ka (ops:Array Oper)(o:Oper):List Nat:=
 match o.guard with
 |some (j,_)=>(match(ops[j]?).bind (·.dst) with|some t=>[t]|none=>[])
 |none=>[]
def St.withR (S:St)(f:Nat->Sh):St:=⟨f,S.o,S.ver⟩
section
variable {C:Ctx} {S:St} {f:Nat->Sh} {gs:List (Nat×Bool)} {dst:Nat}
def CY {t:Nat}(h:f t=S.r t):lM (S.withR f) gs t=lM S gs t:=by
 have e:(S.withR f).r t=S.r t:=h;unfold lM;rw[e]
def u9 {x:Operand}(h:∀t,t∈bL x->f t=S.r t):fO (S.withR f) gs x=fO S gs x:=by
 cases x<;>first|rfl|exact CY (h _ (oZ.2 rfl))
def Pd:∀(l:List Sh) (j:PE) (i:Nat),rS (S.withR f) j l i=rS S j l i
 |[],_,_=>rfl
 |s::l,j,i=>by simp only[rS];rw[Pd l j (i+1)];rfl
def Og:∀(l:List AgC),xK (S.withR f) l=xK S l
 |[]=>rfl
 |.dat _::l=>Og l
 |.obj j ver::l=>by simp only[xK];rw[Og l];rfl
def X5:∀(l:List Sh),vC (S.withR f) l=vC S l
 |[]=>rfl
 |s::l=>by simp only[vC];rw[X5 l];rfl
def fa {x:Operand}(h:∀t,t∈bL x->f t=S.r t):use C (S.withR f) gs x=use C S gs x:=by
 cases x<;>first|rfl|(unfold use;simp only;rw[CY (h _ (oZ.2 rfl))];simp only[Pd];rfl)
def ahj {x:Operand}(h:∀t,t∈bL x->f t=S.r t):view C (S.withR f) gs x=view C S gs x:=by
 unfold view;rw[fa h];cases x<;>first|rfl|(simp only;rw[CY (h _ (oZ.2 rfl))];rfl)
def Xl:∀{xs:List Operand},(∀t,t∈xs.flatMap bL->f t=S.r t)->lN C (S.withR f) gs xs=lN C S gs xs
 |[],_=>rfl
 |x::xs,h=>by
  simp only[lN]
  rw[fa λt ht=>h t (iM.2 ⟨x,er ..,ht⟩),Xl λt ht=>by
   obtain⟨y,hy,ux⟩:=iM.1 ht;exact h t (iM.2 ⟨y,dW _ hy,ux⟩)]
def axr {x:Option Operand}(h:∀t,t∈C5 x->f t=S.r t):Hu C (S.withR f) gs x=Hu C S gs x:=by
 cases x with
 |none=>rfl
 |some x=>exact fa h
def axp {e:PE}{x:Option Operand}(h:∀t,t∈C5 x->f t=S.r t):Ht C (S.withR f) gs e x=Ht C S gs e x:=by
 cases x with
 |none=>rfl
 |some x=>exact fa h
def sF:∀{xs:List Operand},(∀t,t∈xs.flatMap bL->f t=S.r t)->cj (S.withR f) gs xs=cj S gs xs
 |[],_=>rfl
 |x::xs,h=>by
  simp only[cj]
  rw[u9 λt ht=>h t (iM.2 ⟨x,er ..,ht⟩),sF λt ht=>by
   obtain⟨y,hy,ux⟩:=iM.1 ht;exact h t (iM.2 ⟨y,dW _ hy,ux⟩)]
  simp only[Og];rfl
def ku {P:Nat->Prop}{a b:List Nat}(h:∀t,t∈a++b->P t):(∀t,t∈a->P t)/\∀t,t∈b->P t:=
 ⟨λt ht=>h t (kE _ ht),λt ht=>h t (ld _ ht)⟩
def aee {x:Operand}(h:∀t,t∈bL x->f t=S.r t):re C (S.withR f) gs dst x=re C S gs dst x:=by
 unfold re;rw[fa h];cases x<;>first|rfl|(simp only;rw[CY (h _ (oZ.2 rfl))])
def arY {c x y:Operand}(h:∀t,t∈bL c++bL x++bL y->f t=S.r t):Cm C (S.withR f) gs dst c x y=Cm C S gs dst c x y:=by
 obtain⟨h1,h3⟩:=ku h;obtain⟨h1,h2⟩:=ku h1;unfold Cm;cases c<;>first|rfl|skip
 simp only;rw[CY (h1 _ (oZ.2 rfl)),fa h2,fa h3]
def arx {op:BinOp}{T:TypeId}{x y:Operand}(h:∀t,t∈bL x++bL y->f t=S.r t):Cb C (S.withR f) gs dst op T x y=Cb C S gs dst op T x y:=by
 obtain⟨h1,h2⟩:=ku h;unfold Cb;rw[fa h1,fa h2]
def ar3 {op:UnOp}{x:Operand}(h:∀t,t∈bL x->f t=S.r t):Co C (S.withR f) gs dst op x=Co C S gs dst op x:=by unfold Co;rw[fa h]
def arB {s d:TypeId}{x:Operand}(h:∀t,t∈bL x->f t=S.r t):Cd C (S.withR f) gs dst s d x=Cd C S gs dst s d x:=by unfold Cd;rw[fa h]
def arQ {T:TypeId}{x:Operand}(h:∀t,t∈bL x->f t=S.r t):Cj C (S.withR f) gs dst T x=Cj C S gs dst T x:=by unfold Cj;rw[ahj h]
def aec {b:Bool}{x y:Operand}(h:∀t,t∈bL x++bL y->f t=S.r t):y7 C (S.withR f) gs dst b x y=y7 C S gs dst b x y:=by
 obtain⟨h1,h2⟩:=ku h;unfold y7;rw[fa h1,fa h2]
def arS {T:TypeId}{x:Operand}(h:∀t,t∈bL x->f t=S.r t):uI C (S.withR f) gs dst T x=uI C S gs dst T x:=by
 unfold uI;rw[u9 h,fa h];simp only[Pd,X5];rfl
def arG {T:TypeId}{x:Operand}{i:Nat}(h:∀t,t∈bL x->f t=S.r t):Cg C (S.withR f) gs dst T x i=Cg C S gs dst T x i:=by
 unfold Cg;rw[u9 h,fa h];rfl
def arJ {T:TypeId}{x:Operand}{i:Nat}(h:∀t,t∈bL x->f t=S.r t):Cf C (S.withR f) gs dst T x i=Cf C S gs dst T x i:=by unfold Cf;rw[fa h]
def arM {T:TypeId}{x i:Operand}(h:∀t,t∈bL x++bL i->f t=S.r t):Ci C (S.withR f) gs dst T x i=Ci C S gs dst T x i:=by
 obtain⟨h1,h2⟩:=ku h;unfold Ci;rw[fa h1,fa h2,u9 h1];rfl
def arO {T:TypeId}{x i:Operand}(h:∀t,t∈bL x++bL i->f t=S.r t):Ch C (S.withR f) gs dst T x i=Ch C S gs dst T x i:=by
 obtain⟨h1,h2⟩:=ku h;unfold Ch;rw[fa h1,fa h2]
def arD {x:Operand}{i:Nat}(h:∀t,t∈bL x->f t=S.r t):Ce C (S.withR f) gs dst x i=Ce C S gs dst x i:=by unfold Ce;rw[fa h]
def arU {T:TypeId}{m k:Operand}{ok:Bool}(h:∀t,t∈bL m++bL k->f t=S.r t):Ck C (S.withR f) gs dst T m k ok=Ck C S gs dst T m k ok:=by
 obtain⟨h1,h2⟩:=ku h;unfold Ck;rw[ahj h1,fa h2]
def ar1 {T:TypeId}{x:Operand}{lo hi mx:Option Operand}(h:∀t,t∈bL x++C5 lo++C5 hi->f t=S.r t):Cn C (S.withR f) gs dst T x lo hi mx=Cn C S gs dst T x lo hi mx:=by
 obtain⟨h1,h3⟩:=ku h;obtain⟨h1,h2⟩:=ku h1;unfold Cn;rw[fa h1];simp only[axr h2,axp h3]
def Ym {zs:List Value}{parts:List (Nat×Operand)}(h:∀t,t∈(parts.flatMap λp=>bL p.2)->f t=S.r t):∀(fs:List Field) (i off:Nat),lV C (S.withR f) gs zs parts fs i off=lV C S gs zs parts fs i off
 |[],_,_=>rfl
 |g::fs,i,off=>by
  simp only[lV,Ym h fs];cases hp:parts.find? (λp=>Nat.beq p.1 i) with
  |none=>rfl
  |some p=>
   have hu:∀ft,uK C (S.withR f) gs ft p.2=uK C S gs ft p.2:=λft=>by
        unfold uK;rw[fa λt ht=>h t (iM.2 ⟨p,rI hp,ht⟩),u9 λt ht=>h t (iM.2 ⟨p,rI hp,ht⟩)];rfl
   simp only[hu]
def arz {T:TypeId}{ps:List (Nat×Operand)}(h:∀t,t∈(ps.flatMap λp=>bL p.2)->f t=S.r t):Cc C (S.withR f) gs dst T ps=Cc C S gs dst T ps:=by
 unfold Cc;simp only[Ym h];split
 .rfl
 .split
  .split
   .rename_i x y;rw[fa (x:=x) λt ht=>h t (by simp[ht]),fa (x:=y) λt ht=>h t (by simp[ht])]
   .rfl
  .rfl
 .rfl
def arW {x:Operand}(h:∀t,t∈bL x->f t=S.r t):Cl C (S.withR f) gs dst x=Cl C S gs dst x:=by
 unfold Cl;rw[fa h];cases x<;>first|rfl|(simp only;rw[CY (h _ (oZ.2 rfl))];rfl)
def oh:Op->Bool
 |.move _|.pick ..|.binOp ..|.unOp ..|.convert ..|.load ..|.fieldAddr ..|.field ..|.indexAddr ..|.index ..|.extract ..|.lookup ..|.slice ..|.build ..|.nilCheck _|.makeInterface ..|.call _=>true
 |_=>false
def aeg {op:Op}(hq:oh op=true)(h:∀t,t∈mW op->f t=S.r t):pV C (S.withR f) gs dst op=pV C S gs dst op:=by
 cases op<;>simp only[oh] at hq<;>simp only[mW] at h<;>simp only[pV]
 case move=>exact aee h
 case pick=>exact arY h
 case binOp=>exact arx h
 case unOp=>exact ar3 h
 case convert=>exact arB h
 case load=>exact arS h
 case fieldAddr=>exact arG h
 case field=>exact arJ h
 case indexAddr=>exact arM h
 case index=>exact arO h
 case extract=>exact arD h
 case lookup=>exact arU h
 case slice=>exact ar1 h
 case build=>exact arz h
 case nilCheck=>exact arW h
 case call c=>
  obtain⟨_,h2⟩:=ku h;split
  .rename_i x T _ ha _;exact arQ λt ht=>h2 t (by rw[ha];simp[ht])
  .rename_i x y _ ha;exact aec λt ht=>h2 t (by rw[ha];simpa using ht)
  .rename_i x y _ ha;exact aec λt ht=>h2 t (by rw[ha];simpa using ht)
  .rfl
 all_goals (cases hq;done)
def asz {op:Op}(h:∀t,t∈mW op->f t=S.r t)(hq:oh op=true):uN (S.withR f) gs op=uN S gs op:=by
 cases op<;>simp only[oh] at hq<;>simp only[mW] at h<;>simp only[uN]
 case build T ps=>exact sF λt ht=>h t (by
  obtain⟨x,hx,dA⟩:=iM.1 ht;obtain⟨p,hp,rfl⟩:=dX.1 hx;exact iM.2 ⟨p,hp,dA⟩)
 case pick c x y=>
  obtain⟨h1,h3⟩:=ku h;obtain⟨h1,h2⟩:=ku h1;refine sF λt ht=>?_;simp only[tA,XK,mz,dm] at ht;exact ht.elim (h2 t) (h3 t)
 case slice T x lo hi mx=>
  obtain⟨h1,h3⟩:=ku h;obtain⟨h1,h2⟩:=ku h1;exact sF λt ht=>h1 t (by simpa using ht)
 all_goals first|rfl|(cases hq;done)
def asA {op:Op}(h:∀t,t∈mW op->f t=S.r t)(hq:oh op=true):pre C (S.withR f) gs op=pre C S gs op:=by
 have we:=hq;cases op<;>simp only[oh] at hq<;>simp only[pre,asz h we]
 case load T x=>simp only[mW] at h;rw[u9 h];rfl
 all_goals first|(cases hq;done)|skip
def al7 {ops:Array Oper}{o:Oper}(h:∀t,t∈Ka ops o->f t=S.r t):qz (S.withR f) ops o=qz S ops o:=by
 unfold qz;cases hg:o.guard with
 |none=>rfl
 |some jw=>
  obtain⟨j,want⟩:=jw;simp only;cases ht:(ops[j]?).bind (·.dst) with
  |none=>rfl
  |some t=>
   simp only;have:(S.withR f).r t=S.r t:=h t (by unfold Ka;rw[hg];simp[ht]);rw[this]
end
def wM (C:Ctx)(c:Callee):Bool:=
 match c with
 |.value (.func f)=>(match C.sig f with|some s=>s.res.pure|none=>false)
 |_=>false
def Eh (C:Ctx)(S:St)(gs:List (Nat×Bool))(dst:Nat)(op:Op):Option (Sh×List PI):=
 match op with
 |.assign x=>
  match gs with
  |[]=>bif C.fr.any (Nat.beq dst)&&(cj S [] [x]).isEmpty then(match re C S [] dst x with|some r=>bif oJ r.1 then some r else none|none=>none) else none
  |_=>none
 |.call c=>
  match pV C S gs dst (.call c) with
  |some r=>bif sE r.1&&j8 gs (some dst) r.2 then some (j7 gs r.1,r.2) else none
  |none=>
   bif (cj S gs c.args.toList).isEmpty||wM C c.callee then
    match c.callee with
    |.value (.func f)=>(match qu C S gs dst f c.args.toList with|some r=>bif j8 gs (some dst) r.2.2 then some (j7 gs r.2.1,r.2.2) else none|none=>none)
    |.value x=>(match pw C S gs dst x c.args.toList with|some r=>bif j8 gs (some dst) r.2.2 then some (j7 gs r.2.1,r.2.2) else none|none=>none)
    |_=>none
   else none
 |op=>bif oh op&&(pre C S gs op).isEmpty then(match pV C S gs dst op with|some r=>bif sE r.1&&j8 gs (some dst) r.2 then some (j7 gs r.1,r.2) else none|none=>none) else none
def Ei (C:Ctx)(S:St)(gs:List (Nat×Bool))(op:Op):Option (List PI):=
 match op,gs with
 |.store T x v,[]=>
  match fO S [] x with
  |.eptr ..=>bif (cj S [] [v]).isEmpty then(vG C S T x v).map (·.2) else none
  |_=>none
 |.mapUpdate T m k v,[]=>bif (cj S [] [k,v]).isEmpty then(tQ C S T m k v).map (·.2) else none
 |.panic _,[]=>some [.chk (.nt (.con (.bool true)))]
 |_,_=>none
def vM (C:Ctx)(S:St)(ops:Array Oper)(o:Oper):Option (Sh×List PI):=
 match C.yl with
 |some _=>none
 |none=>(qz S ops o).bind λgs=>
  match o.dst with
  |some dst=>Eh C S gs dst o.op
  |none=>(Ei C S gs o.op).map λl=>(.none,l)
def oU (S:St)(o:Oper)(s:Sh):St:=match o.dst with|some d=>S.setR d s|none=>S
section
variable {C:Ctx} {S:St} {f:Nat->Sh} {gs:List (Nat×Bool)} {dst:Nat}
def alP (j:Nat):(S.withR f).fz j=(S.fz j).withR f:=by
 unfold St.fz St.withR;simp only;split<;>rfl
def ZA:∀(js:List Nat) {S:St},(S.withR f).fzs js=(S.fzs js).withR f
 |[],_=>rfl
 |j::js,S=>by
  show((S.withR f).fz j).fzs js=((S.fz j).fzs js).withR f;rw[alP,ZA js]
def ajS {g:Nat}{xs:List Operand}(h:∀t,t∈xs.flatMap bL->f t=S.r t):
 (match qu C (S.withR f) gs dst g xs with|some r=>bif j8 gs (some dst) r.2.2 then some (j7 gs r.2.1,r.2.2) else none|none=>none)=(match qu C S gs dst g xs with|some r=>bif j8 gs (some dst) r.2.2 then some (j7 gs r.2.1,r.2.2) else none|none=>none):=by
 have ho:=sF (gs:=gs) h;unfold qu;generalize (C.sig g).bind (DP C.fr dst)=q;cases q with
 |none=>rfl
 |some s=>
  simp only[lh];cases s.mode<;>first|rfl|skip
  simp only[ho,ZA];rw[Xl (S:=S.fzs (cj S gs xs)) (f:=f) (λt ht=>by rw[(py _ S).2];exact h t ht)];cases lN C (S.fzs (cj S gs xs)) gs xs with
  |none=>rfl
  |some u=>
   simp only[lh];cases Ty.subs u.1 s.args<;>rfl
def ajJ {x:Operand}{xs:List Operand}(hx:∀t,t∈bL x->f t=S.r t)(h:∀t,t∈xs.flatMap bL->f t=S.r t)(he:(cj S gs xs).isEmpty=true):
 (match pw C (S.withR f) gs dst x xs with|some r=>bif j8 gs (some dst) r.2.2 then some (j7 gs r.2.1,r.2.2) else none|none=>none)=(match pw C S gs dst x xs with|some r=>bif j8 gs (some dst) r.2.2 then some (j7 gs r.2.1,r.2.2) else none|none=>none):=by
 have ho:=sF (gs:=gs) h;have qF:=tC.1 he;unfold pw;rw[fa hx];cases use C S gs x with
 |none=>rfl
 |some y=>
  obtain⟨ty,e⟩:=y;cases ty with
  |fn aa r=>
   simp only;cases nF aa r with
   |some _=>rfl
   |none=>
    simp only[ho,qF,St.fzs,XM,Xl h];cases lN C S gs xs with
    |none=>rfl
    |some u=>
     simp only[lh];cases Ty.subs u.1 aa<;>rfl
  |_=>rfl
def akL {op:Op}(h:∀t,t∈mW op->f t=S.r t):Eh C (S.withR f) gs dst op=Eh C S gs dst op:=by
 have other:∀op,(∀t,t∈mW op->f t=S.r t)->(bif oh op&&(pre C (S.withR f) gs op).isEmpty then(match pV C (S.withR f) gs dst op with|some r=>bif sE r.1&&j8 gs (some dst) r.2 then some (j7 gs r.1,r.2) else none|none=>none) else none)=
  (bif oh op&&(pre C S gs op).isEmpty then(match pV C S gs dst op with|some r=>bif sE r.1&&j8 gs (some dst) r.2 then some (j7 gs r.1,r.2) else none|none=>none) else none):=by
  intro op h;cases hq:oh op with
  |false=>rfl
  |true=>rw[asA h hq,aeg hq h]
 unfold Eh;split
 .rename_i x;simp only[mW] at h;rw[aee h,sF (xs:=[x]) λt ht=>h t (by simpa using ht)]
 .rename_i c;have h':=h;simp only[mW] at h';obtain⟨h1,h2⟩:=ku h';rw[aeg (op:=.call c) rfl h,sF h2];split
  .rfl
  .cases he:(cj S gs c.args.toList).isEmpty||wM C c.callee with
   |false=>rfl
   |true=>
    simp only[zyx];split
    .exact ajS h2
    .rename_i x hx hc;have hp:wM C c.callee=false:=by
         rw[hc];unfold wM;cases x<;>first|rfl|exact absurd rfl (hx _)
     exact ajJ (λt ht=>h1 t (by rw[hc];exact ht)) h2 (by rw[hp,vj] at he;exact he)
    .rfl
 .exact other _ h
def akM {op:Op}(h:∀t,t∈mW op->f t=S.r t):Ei C (S.withR f) gs op=Ei C S gs op:=by
 unfold Ei;split
 .rename_i T x v;simp only[mW] at h;obtain⟨h1,h2⟩:=ku h;rw[u9 h1,sF (xs:=[v]) λt ht=>h2 t (by simpa using ht)];split
  .rename_i j ver size off ff;cases(cj S [] [v]).isEmpty with
   |false=>rfl
   |true=>
    simp only[zyx];unfold vG;rw[u9 h1,fa h2,ff];simp only;have eo:(S.withR f).o=S.o:=rfl;have ev:(S.withR f).ver=S.ver:=rfl;rw[eo,ev];cases C.P.info? T with
    |none=>rfl
    |some inf=>
     simp only;cases Nat.beq ver (S.ver j) with
     |false=>rfl
     |true=>
      simp only[zyx];cases S.o j with
      |row T' e0=>
       cases use C S [] v with
       |none=>cases e0<;>rfl
       |some y=>
        obtain⟨t,e⟩:=y;cases e0<;>simp only<;>(generalize (_&&_:Bool)=b;cases b<;>rfl)
      |_=>rfl
  .rfl
 .rename_i T m k v;simp only[mW] at h;obtain⟨h1,h3⟩:=ku h;obtain⟨h1,h2⟩:=ku h1
  rw[sF (xs:=[k,v]) λt ht=>by
   simp only[tA,XK,mz,dm] at ht;exact ht.elim (h2 t) (h3 t)]
  cases(cj S [] [k,v]).isEmpty with
  |false=>rfl
  |true=>
   simp only[zyx];unfold tQ;rw[u9 h1,fa h2,fa h3];have eo:(S.withR f).o=S.o:=rfl;have ev:(S.withR f).ver=S.ver:=rfl;rw[eo,ev];cases C.P.underlying T with
   |none=>rfl
   |some desc=>
    cases desc with
    |map K E=>
     cases fO S [] m with
     |obj j ver=>
      simp only;cases Nat.beq ver (S.ver j) with
      |false=>rfl
      |true=>
       simp only[zyx];cases S.o j with
       |mp kt et=>
        cases use C S [] k with
        |none=>rfl
        |some y=>
         cases use C S [] v with
         |none=>rfl
         |some z=>
          obtain⟨tk,ek⟩:=y;obtain⟨tv,ev⟩:=z;simp only;generalize (_&&_:Bool)=b;cases b<;>rfl
       |_=>rfl
     |_=>rfl
    |_=>rfl
 .rfl
 .rfl
def akO {ops:Array Oper}{o:Oper}(h:∀t,t∈mW o.op++Ka ops o->f t=S.r t):vM C (S.withR f) ops o=vM C S ops o:=by
 obtain⟨h1,h2⟩:=ku h;unfold vM;rw[al7 h2];split
 .rfl
 .cases qz S ops o with
  |none=>rfl
  |some gs=>
   simp only[lh];split
   .exact akL h1
   .rw[akM h1]
def atM {S:St}{t:Nat}{s:Sh}(h:S.r t=s)(hs:oJ s=true):zt S t t=some (S,[]):=by
 unfold zt;rw[h];cases s<;>first|rfl|cases hs
def akN {ops:Array Oper}{o:Oper}{q:Sh×List PI}(h:vM C S ops o=some q):qs C S ops o=some (oU S o q.1,q.2):=by
 unfold vM at h;split at h
 case h_1=>cases h
 rename_i nD;simp only[aw] at h;obtain⟨gs,eK,h⟩:=h;have hY:A8 C S ops o=none:=by
  unfold A8;rw[nD];split<;>first|rfl|(rename_i hx;cases hx;done)|(rename_i hx _;cases hx;done)
 have fin:∀{S':St},pre C S gs o.op++rh C S gs o=[]->core C S gs o=some (S',q.2)->kI C (post C S' o) S'=some (S',[])->j8 gs o.dst q.2=true->qs C S ops o=some (S',q.2):=by
  intro S' h1 h2 h3 h4;unfold qs A7 DM;rw[hY,eK];simp only[lh,h1,kI,h2,h3,h4,zyx,tG,mz]
 cases hd:o.dst with
 |some dst=>
  simp only[hd] at h;have bZ:oU S o q.1=S.setR dst q.1:=by unfold oU;rw[hd]
  rw[bZ];unfold Eh at h;split at h
  .rename_i x bT;split at h
   case h_2=>cases h
   cases hb:(C.fr.any (Nat.beq dst)&&(cj S [] [x]).isEmpty)<;>simp only[hb,zyx,zyw] at h
   .cases h
   simp only[aq] at hb;split at h
   case h_2=>cases h
   rename_i r hr;cases aac:oJ r.1<;>simp only[aac,zyx,zyw] at h
   .cases h
   cases h;have he:=tC.1 hb.2;refine fin ?_ ?_ ?_ rfl
   .rw[bT];unfold rh;rw[bT,hd];simp only[hb.1,he,zyx,pre,uN,tF,mz]
   .unfold core;rw[hd];simp only[bT,pV,hb.1,zyx,hr]
   .unfold post;rw[bT,hd];simp only[kI,Gh.run];rw[atM (s:=q.1) (by simp[St.setR,aO]) aac];rfl
  .rename_i c bT;have Q4:pre C S gs o.op++rh C S gs o=[]:=by
        rw[bT];unfold rh;rw[bT];simp[pre,uN]
   have ly:∀S':St,kI C (post C S' o) S'=some (S',[]):=λS'=>by
        unfold post;rw[bT];rfl
   split at h
   .rename_i r hr;cases hb:(sE r.1&&j8 gs (some dst) r.2)<;>simp only[hb,zyx,zyw] at h
    .cases h
    cases h;simp only[aq] at hb;refine fin Q4 ?_ (ly _) (by rw[hd];exact hb.2);unfold core;rw[hd];simp only[bT,hr,hb.1,zyx]
   .rename_i hr;cases he:(cj S gs c.args.toList).isEmpty||wM C c.callee<;>simp only[he,zyx,zyw] at h
    .cases h
    have sfz:∀b:Bool,(cj S gs c.args.toList).isEmpty=true\/b=true->(bif b then S else S.fzs (cj S gs c.args.toList))=S:=λb hb=>by
     rcases hb with hb|rfl
     .rw[tC.1 hb];cases b<;>rfl
     .rfl
    split at h
    .rename_i f hc;split at h
     case h_2=>cases h
     rename_i r eL;cases hb:j8 gs (some dst) r.2.2<;>simp only[hb,zyx,zyw] at h
     .cases h
     cases h;refine fin Q4 ?_ (ly _) (by rw[hd];exact hb);have hS:r.1=S:=by
      simp only[qu,aw] at eL;obtain⟨s,⟨s0,hs,kh⟩,eL⟩:=eL;split at eL
      case h_2=>cases eL
      simp only[aw] at eL;obtain⟨u,hu,eL⟩:=eL;cases bU:Ty.subs u.1 s.args<;>simp only[bU,zyx,zyw] at eL
      .cases eL
      cases eL;refine sfz _ ?_;have Fc:s.res=s0.res:=by
       unfold DP at kh;split at kh
       .revert kh
        generalize (_&&_:Bool)=b;intro kh;cases b<;>simp only[zyx,zyw,aS] at kh<;>rw[<-kh]
       .simp only[aS] at kh;rw[<-kh]
      rw[hc] at he;simp only[wM,hs,fQ] at he;rw[Fc];exact he
     unfold core;rw[hd];simp only[bT,hr,hc,eL,hS]
    .rename_i x KZ hc;split at h
     case h_2=>cases h
     rename_i r eL;cases hb:j8 gs (some dst) r.2.2<;>simp only[hb,zyx,zyw] at h
     .cases h
     cases h;refine fin Q4 ?_ (ly _) (by rw[hd];exact hb);have hS:r.1=S:=by
      unfold pw at eL;split at eL
      case h_2=>cases eL
      rename_i aa r0 e yO;split at eL
      case h_1=>cases eL
      simp only[aw] at eL;obtain⟨u,hu,eL⟩:=eL;cases bU:Ty.subs u.1 aa<;>simp only[bU,zyx,zyw] at eL
      .cases eL
      cases eL;refine sfz _ (.inl ?_);have hp:wM C c.callee=false:=by
       rw[hc];unfold wM;cases x<;>first|rfl|exact absurd rfl (KZ _)
      rw[hp,vj] at he;exact he
     unfold core;rw[hd];simp only[bT,hr,hc];cases x with
     |func f=>exact absurd rfl (KZ f)
     |_=>simp only[eL,hS]
    .cases h
  .rename_i hna dD;cases hb:(oh o.op&&(pre C S gs o.op).isEmpty)<;>simp only[hb,zyx,zyw] at h
   .cases h
   simp only[aq] at hb;split at h
   case h_2=>cases h
   rename_i r hr;cases bC:(sE r.1&&j8 gs (some dst) r.2)<;>simp only[bC,zyx,zyw] at h
   .cases h
   cases h;simp only[aq] at bC;have dC:rh C S gs o=[]:=by
        unfold rh;split
        .rename_i x t e _;exact absurd e (hna x)
        .rfl
   have ly:∀S':St,kI C (post C S' o) S'=some (S',[]):=λS'=>by
        have:post C S' o=[]:=by
         unfold post;split
         .rename_i x t e _;exact absurd e (hna x)
         .rename_i T t e _;rw[e] at hb;simp[oh] at hb
         .rename_i T x v e;rw[e] at hb;simp[oh] at hb
         .rfl
        rw[this];rfl
   refine fin (by rw[dC,tC.1 hb.2];rfl) ?_ (ly _) (by rw[hd];exact bC.2);unfold core;rw[hd];simp only[hr,bC.1,zyx]
 |none=>
  simp only[hd,aC] at h;obtain⟨l,h,rfl⟩:=h;have bZ:oU S o (.none:Sh)=S:=by unfold oU;rw[hd]
  show qs C S ops o=some (oU S o .none,l);rw[bZ];have dC:rh C S gs o=[]:=by unfold rh;rw[hd];split<;>first|rfl|(rename_i hx;cases hx)
  unfold Ei at h;split at h
  .rename_i T x v bT;split at h
   case h_2=>cases h
   rename_i j ver size off ff;cases he:(cj S [] [v]).isEmpty<;>simp only[he,zyx,zyw] at h
   .cases h
   simp only[aC] at h;obtain⟨r,hr,rfl⟩:=h;have hS:r.1=S:=by
        unfold vG at hr;split at hr
        case h_2=>cases hr
        rw[ff] at hr;simp only at hr;cases hv:Nat.beq ver (S.ver j)<;>simp only[hv,zyx,zyw] at hr
        .cases hr
        split at hr
        .revert hr;generalize (_&&_:Bool)=b;intro hr;cases b<;>simp only[zyx,zyw] at hr<;>cases hr;rfl
        .revert hr;generalize (_&&_:Bool)=b;intro hr;cases b<;>simp only[zyx,zyw] at hr<;>cases hr;rfl
        .cases hr
   refine fin ?_ ?_ ?_ rfl
   .rw[dC,bT];simp only[pre,uN,ff,tC.1 he,tF,mz]
   .unfold core;rw[hd];simp only[bT,hr];rw[<-hS]
   .unfold post;rw[bT];simp only[ff];rfl
  .rename_i T m k v bT;cases he:(cj S [] [k,v]).isEmpty<;>simp only[he,zyx,zyw] at h
   .cases h
   simp only[aC] at h;obtain⟨r,hr,rfl⟩:=h;have hS:r.1=S:=by
        unfold tQ at hr;split at hr
        .rename_i K _ j ver _ _;cases hv:Nat.beq ver (S.ver j)<;>simp only[hv,zyx,zyw] at hr
         .cases hr
         split at hr
         .revert hr;generalize (_&&_:Bool)=b;intro hr;cases b<;>simp only[zyx,zyw] at hr<;>cases hr;rfl
         .cases hr
        .cases hr
   refine fin ?_ ?_ ?_ rfl
   .rw[dC,bT];simp only[pre,uN,tC.1 he,tF,mz]
   .unfold core;rw[hd];simp only[bT,hr];rw[<-hS]
   .unfold post;rw[bT];rfl
  .rename_i x bT;cases h;refine fin ?_ ?_ ?_ rfl
   .rw[dC,bT];rfl
   .unfold core;rw[hd];simp only[bT]
   .unfold post;rw[bT];rfl
  .cases h
end
def gD (ops:Array Oper)(shs:List Sh)(l:List Nat)(f:Nat->Sh):Nat->Sh:=
 l.foldl (λf i=>match(ops[i]?).bind (·.dst) with|some d=>cv f d (shs.getD i .none)|none=>f) f
def Bh (C:Ctx)(S:St)(ops:Array Oper):Nat->Option (List (Sh×List PI))
 |0=>some []
 |k+1=>(Bh C S ops k).bind λq=>match ops[k]? with
  |some o=>(vM C (S.withR (gD ops (q.map (·.1)) (List.range k) S.r)) ops o).map λr=>q++[r]
  |none=>none
def ew (ops:Array Oper):Nat->List Nat
 |0=>[]
 |k+1=>ew ops k++[match ops[k]? with
  |some o=>o.after.toList.foldr (λe m=>bif Region.binds .any e then Nat.lor (Nat.lor (eI e.on) ((ew ops k).getD e.on 0)) m else m) 0
  |none=>0]
def afH (ops:Array Oper)(o:Oper):List Nat:=mW o.op++Ka ops o
def Zt (ops:Array Oper)(nc:List (List Nat))(clo:List Nat)(i:Nat):Bool:=
 match ops[i]? with
 |some o=>(nc.getD i []).all (ay (clo.getD i 0))&&(o.after.toList.all λe=> !Region.binds .any e||Nat.blt e.on i)&&
   (afH ops o).all λt=>(List.range ops.size).all λj=>match(ops[j]?).bind (·.dst) with
     |some d=> !Nat.beq d t||((Nat.blt j i&&ay (clo.getD i 0) j)||ay (clo.getD j 0) i)
     |none=>true
 |none=>false
def J3 (ops:Array Oper)(i:Nat):Bool:=match ops[i]? with|some o=>o.after.toList.all λe=> !Region.binds .any e||Nat.blt e.on i|none=>false
def Ej (ops:Array Oper)(nc:List (List Nat))(clo:List Nat)(m:Nat):Bool:=(List.range m).all (Zt ops nc clo)&&(List.range ops.size).all (J3 ops)
def qd (clo:List Nat):Nat->Nat
 |0=>0
 |k+1=>bif (List.range k).all (ay (clo.getD k 0)) then qd clo k else k+1
def ags (clo:List Nat):∀k,qd clo k<=k
 |0=>aY _
 |k+1=>by
  unfold qd;cases(List.range k).all (ay (clo.getD k 0)) with
  |true=>exact Nat.le_succ_of_le (ags clo k)
  |false=>exact aY _
def agr (clo:List Nat):∀k i,qd clo k<=i->i<k->∀j,j<i->ay (clo.getD i 0) j=true
 |0,i,_,h=>by omega
 |k+1,i,h1,h2=>by
  unfold qd at h1;cases hb:(List.range k).all (ay (clo.getD k 0)) with
  |true=>
   rw[hb] at h1;by_cases e:i=k
   .subst e;exact λj hj=>bJ.1 hb j (cm.2 hj)
   .exact agr clo k i h1 (by omega)
  |false=>rw[hb] at h1;simp only[zyw] at h1;omega
def Zu (C:Ctx)(ops:Array Oper)(S:St):Option (St×List PI):=
 (Bh C S ops (qd (ew ops ops.size) ops.size)).bind λq=>
    bif Ej ops (q6 (q.map (·.2)) (qd (ew ops ops.size) ops.size)) (ew ops ops.size) (qd (ew ops ops.size) ops.size) then
     (pv C ops (List.range' (qd (ew ops ops.size) ops.size) (ops.size-qd (ew ops ops.size) ops.size)) (S.withR (gD ops (q.map (·.1)) (List.range (qd (ew ops ops.size) ops.size)) S.r))).map λr=>(r.1,(q.map (·.2)).flatten++r.2)
    else none
def Ng (ops:Array Oper)(shs:List Sh)(i:Nat)(l:List Nat)(f:Nat->Sh):gD ops shs (i::l) f=gD ops shs l (match(ops[i]?).bind (·.dst) with|some d=>cv f d (shs.getD i .none)|none=>f):=rfl
def Hi {ops:Array Oper}{shs:List Sh}{t:Nat}:∀{l:List Nat} {f:Nat->Sh},(∀i,i∈l->(ops[i]?).bind (·.dst)≠some t)->gD ops shs l f t=f t
 |[],_,_=>rfl
 |i::l,f,h=>by
  rw[Ng,Hi λj hj=>h j (dW _ hj)];have:=h i (er ..);cases hd:(ops[i]?).bind (·.dst) with
  |none=>rfl
  |some d=>exact bt _ _ (λe=>this (by rw[hd,e]))
def N4 (ops:Array Oper):Prop:=∀(i j t:Nat),(ops[i]?).bind (·.dst)=some t->(ops[j]?).bind (·.dst)=some t->i=j
def Nf {ops:Array Oper}(ho:N4 ops){shs:List Sh}{t i:Nat}(ht:(ops[i]?).bind (·.dst)=some t):∀{l:List Nat} {f:Nat->Sh},i∈l->gD ops shs l f t=shs.getD i .none
 |[],_,h=>nomatch h
 |j::l,f,h=>by
  rw[Ng];by_cases hl:i∈l
  .exact Nf ho ht hl
  .have e:i=j:=(cZ.1 h).resolve_right hl;subst e;rw[Hi λk hk e=>hl (by rw[ho i k t ht e];exact hk),ht];exact aO _ _ _
def agh {ops:Array Oper}(ho:N4 ops){shs UP:List Sh}{l m:List Nat}{f:Nat->Sh}{t:Nat}(h1:∀i,(ops[i]?).bind (·.dst)=some t->(i∈l↔i∈m))(h2:∀i,i∈l->(ops[i]?).bind (·.dst)=some t->shs.getD i .none=UP.getD i .none):gD ops shs l f t=gD ops UP m f t:=by
 by_cases hh:∃i,i∈l/\(ops[i]?).bind (·.dst)=some t
 .obtain⟨i,hi,ht⟩:=hh;rw[Nf ho ht hi,Nf ho ht ((h1 i ht).1 hi),h2 i hi ht]
 .rw[Hi λi hi e=>hh ⟨i,hi,e⟩,Hi λi hi e=>hh ⟨i,(h1 i e).2 hi,e⟩]
def aru {ops:Array Oper}(h:(ops.toList.filterMap (·.dst)).Nodup):N4 ops:=by
 intro i j t hi hj;rw[aw] at hi hj;obtain⟨oi,h1,h2⟩:=hi;obtain⟨oj,h3,h4⟩:=hj;by_cases e:i=j
 .exact e
 .exact(xT.dst_once h h1 h3 h2 h4 e).elim
def PM {C:Ctx}{S:St}{ops:Array Oper}:∀{k:Nat} {q:List (Sh×List PI)},Bh C S ops k=some q->q.length=k/\∀i,i<k->∃o,ops[i]?=some o/\
 vM C (S.withR (gD ops (q.map (·.1)) (List.range i) S.r)) ops o=some ((q.map (·.1)).getD i .none,(q.map (·.2)).getD i [])
 |0,q,h=>by simp only[Bh,aS] at h;subst h;exact⟨rfl,λi hi=>by omega⟩
 |k+1,q,h=>by
  simp only[Bh,aw] at h;obtain⟨p,hp,h⟩:=h;split at h
  case h_2=>cases h
  rename_i o ho;simp only[aC] at h;obtain⟨r,hr,rfl⟩:=h;obtain⟨l1,aI⟩:=PM hp;have same:∀i,i<=k->gD ops ((p++[r]).map (·.1)) (List.range i) S.r=gD ops (p.map (·.1)) (List.range i) S.r:=by
   intro i hi;have key:∀(l:List Nat) (f:Nat->Sh),(∀j,j∈l->j<p.length)->gD ops ((p++[r]).map (·.1)) l f=gD ops (p.map (·.1)) l f:=by
    intro l
    induction l with
    |nil=>intro f _;rfl
    |cons j l ih=>
     intro f hl;have hj:=hl j (er ..);have e:((p++[r]).map (·.1)).getD j .none=(p.map (·.1)).getD j .none:=by
       rw[mB,aN,lT (by simpa using hj),<-aN]
     rw[Ng,Ng,e,ih _ λm hm=>hl m (dW _ hm)]
   exact key _ _ λj hj=>by have:=cm.1 hj;omega
  refine⟨by simp[l1],λi hi=>?_⟩;by_cases e:i=k
  .subst e;refine⟨o,ho,?_⟩;rw[same i (aY _),hr];have e1:((p++[r]).map (·.1)).getD i .none=r.1:=by
    rw[mB,aN,jX (by simp[l1])];simp[l1]
   have e2:((p++[r]).map (·.2)).getD i []=r.2:=by
    rw[mB,aN,jX (by simp[l1])];simp[l1]
   rw[e1,e2]
  .obtain⟨o',h1,h2⟩:=aI i (by omega);refine⟨o',h1,?_⟩;rw[same i (by omega),h2];have:i<p.length:=by omega
   simp only[mB,aN];rw[lT (by simpa using this),lT (by simpa using this)]
def JP (ops:Array Oper):∀k,(ew ops k).length=k
 |0=>rfl
 |k+1=>by simp[ew,JP ops k]
def YE (ops:Array Oper){k m i:Nat}(h:i<k)(hm:k<=m):(ew ops m).getD i 0=(ew ops k).getD i 0:=by
 induction m with
 |zero=>omega
 |succ m ih=>
  by_cases e:k=m+1
  .rw[e]
  .rw[<-ih (by omega)];simp only[ew,aN];rw[lT (by rw[JP];omega)]
def JQ {ops:Array Oper}{N i m:Nat}{o:Oper}(hi:i<N)(ho:ops[i]?=some o)(ah:(o.after.toList.all λe=> !Region.binds .any e||Nat.blt e.on i)=true)(h:ay ((ew ops N).getD i 0) m=true):
 ∃e,e∈o.after.toList/\Region.binds .any e=true/\(m=e.on\/ay ((ew ops N).getD e.on 0) m=true):=by
 rw[YE ops (k:=i+1) (by omega) (by omega)] at h
 have e1:(ew ops (i+1)).getD i 0=o.after.toList.foldr (λe m=>bif Region.binds .any e then Nat.lor (Nat.lor (eI e.on) ((ew ops i).getD e.on 0)) m else m) 0:=by
  simp only[ew,aN];rw[jX (by rw[JP];exact aY _),JP];simp[ho]
 rw[e1] at h;have aI:=bJ.1 ah;generalize o.after.toList=l at h aI
 induction l with
 |nil=>rw[tP] at h;simp at h
 |cons e l ih=>
  simp only[List.foldr_cons] at h;cases hb:Region.binds .any e<;>rw[hb] at h<;>simp only[zyx,zyw] at h
  .obtain⟨e',h1,h2⟩:=ih h (λx hx=>aI x (dW _ hx));exact⟨e',dW _ h1,h2⟩
  .rw[gu,gu,fQ,fQ] at h;have qN:e.on<i:=by
        have:=aI e (er ..);rw[hb] at this;simpa [jB] using this
   rcases h with(h|h)|h
   .refine⟨e,er ..,hb,.inl ?_⟩;have:=j4 0 e.on m;have z:ay 0 m=false:=by rw[tP];simp
    rw[gu,z,rF,rF,h] at this;exact(dq this.symm).symm
   .refine⟨e,er ..,hb,.inr ?_⟩;rw[YE ops qN (by omega)];exact h
   .obtain⟨e',h1,h2⟩:=ih h (λx hx=>aI x (dW _ hx));exact⟨e',dW _ h1,h2⟩
section
variable {C:Ctx} {S:St} {O:Env} {V:Im} {own:Nat->Option Nat} {hv:Nat->Value} {w0:World} {σ0:Base} {A:Nat->Prop} {a:Act} {w:World} {n:Nat} {ids:List Nat} {Z:aV}
def afI {ops:Array Oper}{listed:Array Bool}{E:Nat}(aH:listed.size=ops.size)(hl:∀i,listed.getD i false=ay E i)(i:Nat):i∈Region.ready .any ops listed↔i∈m8 ops E:=by
 unfold Region.ready m8;simp only[eW,cm];refine and_congr_right λhi=>?_;have h1:listed.getD i true=ay E i:=by
  rw[<-hl i];simp only[fb];rw[eT (by omega)];rfl
 have h2:ops[i]?=some ops[i]:=eT hi;rw[h1,h2];simp only[lU,nZ,<-Xu,hl]
def xe (ops:Array Oper)(E:Nat):Nat->Prop:=λt=>∃i o,ay E i=true/\ops[i]?=some o/\o.dst=some t
def tl (ops:Array Oper)(E:Nat):Nat:=((List.range ops.size).filter λi=> !ay E i).length
def axj {ops:Array Oper}{E i:Nat}(hi:i<ops.size)(hb:ay E i=false):tl ops E=tl ops (Nat.lor E (eI i))+1:=by
 unfold tl;obtain⟨l1,l2,hl⟩:=NQ (cm.2 hi);have bn:=NZ (n:=ops.size);rw[hl,zR] at bn;obtain⟨_,h2,h3⟩:=bn;rw[nX] at h2;have g1:∀j,j∈l1->j≠i:=λj hj=>h3 j hj i (er ..);have g2:∀j,j∈l2->j≠i:=λj hj e=>h2.1 (e▸hj)
 have c:∀l:List Nat,(∀j,j∈l->j≠i)->(l.filter λj=> !ay (Nat.lor E (eI i)) j)=l.filter λj=> !ay E j:=by
  intro l hl;apply List.filter_congr;intro j hj;rw[j4,fS (λe=>hl j hj e.symm),vj]
 have cN:ay (Nat.lor E (eI i)) i=true:=by rw[j4,ja,oY]
 rw[hl];simp only[Dh,List.filter_cons,c l1 g1,c l2 g2,hb,cN,tw,Bool.not_false,if_true,xA,if_false,jY,mA];omega
def akQ {rd:Option Nat}(hC:CtxOK C σ0)(aR:eU C)(hΦ:ei C Z)(hY:rL C Z w0 σ0){a0:Act}(QL:a0.tmps.size=n){ops:Array Oper}(az:sV n ops=true)(gx:Bl ops=true){m:Nat}(hm:m<=ops.size){q:List (Sh×List PI)}(hq:Bh C S ops m=some q)
 (v7:Ej ops (q6 (q.map (·.2)) m) (ew ops ops.size) m=true) (BR:∀i,m<=i->i<ops.size->∀j,j<i->ay ((ew ops ops.size).getD i 0) j=true) {Q:Exit->Act->World->Prop} {O':Env}
 (hK:∀listed a' w',listed.size=ops.size->(∀i,listed.getD i false=decide (i<m))->SameBut (rU ops) a0 a'->Good C w0 σ0 (S.withR (gD ops (q.map (·.1)) (List.range m) S.r)) O' (nf ops (List.range m)) a' w'->wpAnyIn (FR rd) 0 C.P .any ops Q (ops.size-m) listed a' w'):
 ∀(k E:Nat) (listed:Array Bool) (O:Env) (a:Act) (w:World),tl ops E=k->(∀j,ay E j=true->j<m)->(∀j,j<ops.size->ay E j=true->∀m,ay ((ew ops ops.size).getD j 0) m=true->ay E m=true)->listed.size=ops.size->(∀i,listed.getD i false=ay E i)->SameBut (rU ops) a0 a->
  Good C w0 σ0 (S.withR (gD ops (q.map (·.1)) ((List.range m).filter (ay E)) S.r)) O (xe ops E) a w->PI.runs Z (fC (q.map (·.2)) (List.range m) E) O=some O'->wpAnyIn (FR rd) 0 C.P .any ops Q k listed a w:=by
 have K3:=az;simp only[sV,aq] at az;have bn:=nJ az.1;have QW:=aru bn;obtain⟨hlen,aI⟩:=PM hq;unfold Ej at v7;rw[aq] at v7
 have Ew:∀i,i<ops.size->∀o,ops[i]?=some o->(o.after.toList.all λe=> !Region.binds .any e||Nat.blt e.on i)=true:=by
  intro i hi o ho;have:=bJ.1 v7.2 i (cm.2 hi);unfold J3 at this;rw[ho] at this;exact this
 have an6:∀i,i<m->∀o,ops[i]?=some o->((q6 (q.map (·.2)) m).getD i []).all (ay ((ew ops ops.size).getD i 0))=true/\
  ∀t,t∈afH ops o->∀j,j<ops.size->(ops[j]?).bind (·.dst)=some t->(j<i/\ay ((ew ops ops.size).getD i 0) j=true)\/ay ((ew ops ops.size).getD j 0) i=true:=by
  intro i hi o ho;have:=bJ.1 v7.1 i (cm.2 hi);unfold Zt at this;rw[ho] at this;simp only[aq] at this;refine⟨this.1.1,λt ht j hj hd=>?_⟩;have:=bJ.1 (bJ.1 this.2 t ht) j (cm.2 hj);rw[hd] at this;simp only[ja,tw,rF,fQ,aq,jB] at this;exact this
 have X8:∀(k E:Nat) (listed:Array Bool) (O:Env) (a:Act) (w:World),(∀i,i<m->ay E i=true)->tl ops E=k->(∀j,ay E j=true->j<m)->listed.size=ops.size->(∀i,listed.getD i false=ay E i)->SameBut (rU ops) a0 a->
  Good C w0 σ0 (S.withR (gD ops (q.map (·.1)) ((List.range m).filter (ay E)) S.r)) O (xe ops E) a w->PI.runs Z (fC (q.map (·.2)) (List.range m) E) O=some O'->wpAnyIn (FR rd) 0 C.P .any ops Q k listed a w:=by
  intro k E listed O a w jH hk yz aH hl hn hg ao;have hb:∀i,ay E i=decide (i<m):=by
   intro i;by_cases h:i<m
   .rw[jH i h,decide_eq_true h]
   .rw[decide_eq_false h];cases hb:ay E i with
    |false=>rfl
    |true=>exact absurd (yz i hb) h
  have Qp:fC (q.map (·.2)) (List.range m) E=[]:=by
   unfold fC;rw[ahK];intro i hi;rw[jH i (cm.1 hi)];rfl
  rw[Qp] at ao;simp only[PI.runs,aS] at ao;subst ao;have amQ:tl ops E=ops.size-m:=by
   unfold tl
   have key:∀N,m<=N->((List.range N).filter λi=> !ay E i).length=N-m:=by
        intro N
        induction N with
        |zero=>intro _;simp
        |succ N ih=>
         intro hN;rw[N1,Dh,jY];by_cases h:m<=N
         .rw[ih h];simp[hb N,Nat.not_lt.2 h];omega
         .have:m=N+1:=by omega
          have e:(List.range N).filter (λi=> !ay E i)=[]:=by
           rw[zM];intro i hi;rw[jH i (by have:=cm.1 hi;omega)];simp
          have hN':ay E N=true:=jH N (by omega);rw[e];simp[hN'];omega
   exact key _ hm
  have ef:(List.range m).filter (ay E)=List.range m:=NT.2 λi hi=>jH i (cm.1 hi);rw[ef] at hg;have lz:xe ops E=nf ops (List.range m):=by
   funext t;apply propext;constructor
   .rintro⟨i,o,h1,h2,h3⟩;exact⟨i,o,cm.2 (yz i h1),h2,h3⟩
   .rintro⟨i,o,h1,h2,h3⟩;exact⟨i,o,jH i (cm.1 h1),h2,h3⟩
  rw[lz] at hg;rw[<-hk,amQ];exact hK listed a w aH (λi=>by rw[hl i,hb i]) hn hg
 intro k
 induction k with
 |zero=>
  intro E listed O a w hk yz Kw aH hl hn hg ao;refine X8 0 E listed O a w (λi hi=>?_) hk yz aH hl hn hg ao;cases hb:ay E i with
  |true=>rfl
  |false=>
   have:i∈(List.range ops.size).filter λi=> !ay E i:=eW.2 ⟨cm.2 (by omega),by rw[hb];rfl⟩;unfold tl at hk;rw[XN.1 hk] at this;cases this
 |succ k ih=>
  intro E listed O a w hk yz Kw aH hl hn hg ao;by_cases jH:∀i,i<m->ay E i=true
  .exact X8 (k+1) E listed O a w jH hk yz aH hl hn hg ao
  refine⟨λhe=>?_,λi hi=>?_⟩
  ·
   obtain⟨i,hi,KU⟩:∃i,(i<m/\ay E i=false)/\∀j,j<i->ay E j=true:=by
        have hex:∃i,i<m/\ay E i=false:=by
         refine xC λeY=>jH λi hi=>?_;cases hb:ay E i with
         |true=>rfl
         |false=>exact absurd ⟨i,hi,hb⟩ eY
        obtain⟨i,hi⟩:=hex
        induction i using Nat.strongRecOn with
        |ind i kT=>
         by_cases hh:∃j,j<i/\ay E j=false
         .obtain⟨j,hj,hb⟩:=hh;exact kT j hj ⟨by omega,hb⟩
         .refine⟨i,hi,λj hj=>?_⟩;cases hb:ay E j with
          |true=>rfl
          |false=>exact absurd ⟨j,hj,hb⟩ hh
   have oy:i<ops.size:=by omega
   have ho:ops[i]?=some ops[i]:=eT oy;have cL:i∈m8 ops E:=by
        unfold m8;simp only[eW,cm,aq,iY,ho];refine⟨oy,hi.2,?_⟩;rw[bJ];intro e iP;have:=bJ.1 (Ew i oy _ ho) e iP;cases hb:Region.binds .any e with
        |false=>rfl
        |true=>
         rw[hb] at this;simp only[tw,rF,jB] at this;rw[KU _ this];rfl
   rw[<-afI aH hl,he] at cL;cases cL
  .rw[afI aH hl] at hi;unfold m8 at hi;simp only[eW,cm,aq,iY] at hi;obtain⟨bp,dN,vS⟩:=hi;have ho0:ops[i]?=some ops[i]:=eT bp;generalize ops[i]=o at ho0;have ho:=ho0;rw[ho] at vS;simp only at vS;have o2:=Ew i bp o ho;have Bu:∀m,ay ((ew ops ops.size).getD i 0) m=true->ay E m=true:=by
        intro m hm;obtain⟨e,kL,l8,Qo⟩:=JQ bp ho o2 hm;have hE:ay E e.on=true:=by
         have:=bJ.1 vS e kL
         rwa [l8,tw,rF] at this
        rcases Qo with rfl|Qo
        .exact hE
        .have qN:e.on<i:=by
          have:=bJ.1 o2 e kL;rw[l8] at this;simpa [jB] using this
         exact Kw e.on (by omega) hE m Qo
   have ma:i<m:=by
        refine xC λeY=>jH λj hj=>?_;exact Bu j (BR i (by omega) bp j (by omega))
   obtain⟨o',eC,jM⟩:=aI i ma;rw[ho] at eC;cases eC;obtain⟨o1,o3⟩:=an6 i ma o ho;have dD:((q6 (q.map (·.2)) m).getD i []).all (ay E)=true:=by
        rw[bJ] at o1 ⊢;exact λm hm=>Bu m (o1 m hm)
   have amT:vM C (S.withR (gD ops (q.map (·.1)) ((List.range m).filter (ay E)) S.r)) ops o=some ((q.map (·.1)).getD i .none,(q.map (·.2)).getD i []):=by
        rw[<-jM];refine akO (S:=S.withR (gD ops (q.map (·.1)) (List.range i) S.r)) λt ht=>?_;refine agh QW (λj hj=>?_) (λ_ _ _=>rfl);have fX:j<ops.size:=by
         rw[aw] at hj;obtain⟨oj,h1,_⟩:=hj;exact(dV.1 h1).1
        rw[eW,cm,cm];rcases o3 t ht j fX hj with⟨h1,h2⟩|h1
        .exact⟨λ_=>h1,λ_=>⟨by omega,Bu j h2⟩⟩
        .constructor
         .rintro⟨_,qC⟩;have:=Kw j fX qC i h1;rw[dN] at this;cases this
         .intro fq;exfalso;have key:∀m j,j<ops.size->ay ((ew ops ops.size).getD j 0) m=true->m<j:=by
           intro m j
           induction j using Nat.strongRecOn with
           |ind j kT=>
            intro hj hm;have sr:ops[j]?=some ops[j]:=eT hj;have p2:=Ew j hj _ sr;obtain⟨e,e1,e2,e3⟩:=JQ hj sr p2 hm;have qN:e.on<j:=by
                have:=bJ.1 p2 e e1;rw[e2] at this;simpa [jB] using this
            rcases e3 with rfl|e3
            .exact qN
            .have:=kT e.on qN (by omega) e3;omega
          have:=key i j fX h1;omega
   have hcp:=akN amT;rw[afQ ma dN dD,aw] at ao;obtain⟨ρ1,hρ1,hρ2⟩:=ao;have sm:∀d,o.dst=some d->¬xe ops E d/\d<a.tmps.size:=by
        intro d hd;refine⟨λ⟨i',o',cN,eC,fI⟩=>?_,?_⟩
        .have aB:i'≠i:=λe=>by subst e;rw[dN] at cN;cases cN
         exact xT.dst_once bn eC ho fI hd aB
        .have:=bJ.1 az.2 o (by simpa using iX ho);simp only[hd,aq] at this;rw[hn.size,QL];simpa [jB] using this.2
   have kP:pU o.op=true:=by
        have:=bJ.1 az.2 o (by simpa using iX ho);simp only[aq] at this;exact this.1
   have hj:∀j want t,o.guard=some (j,want)->(ops[j]?).bind (·.dst)=some t->xe ops E t:=by
        intro j want t il ht;rw[aw] at ht;obtain⟨oj,h1,h2⟩:=ht;have vW:=bJ.1 gx o (by simpa using iX ho);simp only[il] at vW;obtain⟨e,kL,l8⟩:=tz.1 vW;simp only[aq] at l8;have h3:=bJ.1 vS e kL;rw[l8.1] at h3;simp only[tw,rF] at h3;exact⟨j,oj,by rw[<-dq l8.2];exact h3,h1,h2⟩
   have amP:∀j,j<ops.size->ay (Nat.lor E (eI i)) j=true->∀m,ay ((ew ops ops.size).getD j 0) m=true->ay (Nat.lor E (eI i)) m=true:=by
        intro j hj qC m hm;rw[j4,fQ] at qC;rw[j4,fQ];rcases qC with qC|qC
        .exact .inl (Kw j hj qC m hm)
        .rw[<-dq qC] at hm;exact .inl (Bu m hm)
   have main:=JR (rd:=rd) (K:=wpAnyIn (FR rd) 0 C.P .any ops Q k (listed.setIfInBounds i true)) (Q:=Q) hg hC aR hΦ hY kP sm hj hcp hρ1 (λa' w' fW sv=>by
        have hA:(λu=>xe ops E u\/o.dst=some u)=xe ops (Nat.lor E (eI i)):=by
         funext u;apply propext;constructor
         .rintro(⟨i',o',h1,h2,h3⟩|h1)
          .exact⟨i',o',by rw[j4,h1,zI],h2,h3⟩
          .exact⟨i,o,by rw[j4,ja,oY],ho,h1⟩
         .rintro⟨i',o',h1,h2,h3⟩;rw[j4,fQ] at h1;rcases h1 with h1|h1
          .exact .inl ⟨i',o',h1,h2,h3⟩
          .rw[<-dq h1,ho] at h2;cases h2;exact .inr h3
        rw[hA] at fW;have hSt:oU (S.withR (gD ops (q.map (·.1)) ((List.range m).filter (ay E)) S.r)) o ((q.map (·.1)).getD i .none)=S.withR (gD ops (q.map (·.1)) ((List.range m).filter (ay (Nat.lor E (eI i)))) S.r):=by
         have anf:∀t,(oU (S.withR (gD ops (q.map (·.1)) ((List.range m).filter (ay E)) S.r)) o ((q.map (·.1)).getD i .none)).r t=gD ops (q.map (·.1)) ((List.range m).filter (ay (Nat.lor E (eI i)))) S.r t:=by
          intro t;by_cases KB:o.dst=some t
          .have hb:(ops[i]?).bind (·.dst)=some t:=by rw[ho];exact KB
           rw[Nf QW hb (eW.2 ⟨cm.2 ma,by rw[j4,ja,oY]⟩)];unfold oU;rw[KB];simp[St.setR,aO]
          .have e1:(oU (S.withR (gD ops (q.map (·.1)) ((List.range m).filter (ay E)) S.r)) o ((q.map (·.1)).getD i .none)).r t=gD ops (q.map (·.1)) ((List.range m).filter (ay E)) S.r t:=by
            unfold oU;split
            .rename_i d hd;exact bt _ _ (λe=>KB (by rw[hd,e]))
            .rfl
           rw[e1];refine agh QW (λj hj=>?_) (λ_ _ _=>rfl);have fq:¬i=j:=λe=>by subst e;rw[ho] at hj;exact KB hj
           rw[eW,eW,j4,fS fq,vj]
         have:∀(X Y:St),X.o=Y.o->X.ver=Y.ver->(∀t,X.r t=Y.r t)->X=Y:=by
          intro X Y h1 h2 h3;cases X;cases Y;simp only at h1 h2 h3;subst h1 h2
          congr 1
          exact funext h3
         refine this _ _ ?_ ?_ anf
         .unfold oU;split<;>rfl
         .unfold oU;split<;>rfl
        rw[hSt] at fW;refine ih _ _ ρ1 a' w' (by have:=axj bp dN;omega) (λj hj=>by rw[j4,fQ] at hj;rcases hj with hj|hj;exact yz j hj;rw[<-dq hj];exact ma) amP (by simpa using aH) (λj=>?_) (hn.trans (sv.mono λt e=>⟨o,by simpa using iX ho,e⟩)) fW hρ2;rw[j4];simp only[fb,xw];by_cases cK:i=j
        .subst cK;simp[aH,bp]
        .rw[if_neg cK,fS cK,vj,<-hl j];simp only[fb])
   simp only[wpOpIn,ho];split
   .rename_i hw;rw[if_pos hw] at main;exact main
   .rename_i hw;rw[if_neg hw] at main;exact⟨λ_ _=>trivial,main⟩
def auE {rd:Option Nat}(hC:CtxOK C σ0)(aR:eU C)(hΦ:ei C Z)(hY:rL C Z w0 σ0){ops:Array Oper}(az:sV n ops=true)(gx:Bl ops=true)(Ew:(List.range ops.size).all (J3 ops)=true){m:Nat}
 (BR:∀i,m<=i->i<ops.size->∀j,j<i->ay ((ew ops ops.size).getD i 0) j=true) {Q:Exit->Act->World->Prop} {O':Env}:
 ∀(k i:Nat) {S:St} {O:Env} {a:Act} {w:World} {r:St×List PI} (listed:Array Bool),i+k=ops.size->m<=i->listed.size=ops.size->(∀j,listed.getD j false=decide (j<i))->a.tmps.size=n->
  Good C w0 σ0 S O (nf ops (List.range i)) a w->pv C ops (List.range' i k) S=some r->PI.runs Z r.2 O=some O'->
  (∀a' w',SameBut (rU ops) a a'->Good C w0 σ0 r.1 O' (nf ops (List.range ops.size)) a' w'->Q .normal a' w')->wpAnyIn (FR rd) 0 C.P .any ops Q k listed a w:=by
 have K3:=az;simp only[sV,aq] at az;have bn:=nJ az.1
 have Oc:∀i,i<ops.size->∀o,ops[i]?=some o->(o.after.toList.all λe=> !Region.binds .any e||Nat.blt e.on i)=true:=by
  intro i hi o ho;have:=bJ.1 Ew i (cm.2 hi);unfold J3 at this;rw[ho] at this;exact this
 have mem:∀(listed:Array Bool) (i j:Nat),listed.size=ops.size->(∀j,listed.getD j false=decide (j<i))->(j∈Region.ready .any ops listed↔(j<ops.size/\¬j<i/\∀o,ops[j]?=some o->(o.after.toList.all λe=> !Region.binds .any e||decide (e.on<i))=true)):=by
  intro listed i j aH hl;unfold Region.ready;simp only[eW,cm];refine and_congr_right λhj=>?_;have h1:listed.getD j true=decide (j<i):=by
   rw[<-hl j];simp only[fb];rw[eT (by omega)];rfl
  have h2:ops[j]?=some ops[j]:=eT hj;rw[h1,h2];simp only[lU,nZ,<-Xu,hl,aq,iY,decide_eq_false_iff_not,aS,forall_eq']
 intro k
 induction k with
 |zero=>
  intro i S O a w r listed EP hmi aH hl hn hg hr ao hQ;simp only[List.range'_zero,pv,aS] at hr;subst hr;rw[oR ao] at hQ;refine⟨?_,hQ a w (.refl _ _) ?_⟩
  .rw[XH];intro j hj;rw[mem listed i j aH hl] at hj;exact hj.2.1 (by omega)
  .have:i=ops.size:=by omega
   rw[<-this];exact hg
 |succ k ih=>
  intro i S O a w r listed EP hmi aH hl hn hg hr ao hQ;have bp:i<ops.size:=by omega
  have ho:ops[i]?=some ops[i]:=eT bp;generalize ops[i]=o at ho;refine⟨λhe=>?_,λi' cN=>?_⟩
  .have:i∈Region.ready .any ops listed:=by
        rw[mem listed i i aH hl];refine⟨bp,by omega,λo' eC=>?_⟩;rw[bJ];intro e iP;have:=bJ.1 (Oc i bp o' eC) e iP;cases hb:Region.binds .any e with
        |false=>rfl
        |true=>
         rw[hb] at this;simp only[tw,rF,jB] at this;simpa using this
   rw[he] at this;cases this
  .rw[mem listed i i' aH hl] at cN;obtain⟨h1,h2,h3⟩:=cN;obtain rfl:i'=i:=by
        refine xC λaB=>?_;have eC:ops[i']?=some ops[i']:=eT h1;have Bu:=BR i' (by omega) h1 i (by omega);have ah:∀m j,j<ops.size->ay ((ew ops ops.size).getD j 0) m=true->m<j:=by
         intro m j
         induction j using Nat.strongRecOn with
         |ind j kT=>
          intro hj hm;have sr:ops[j]?=some ops[j]:=eT hj;have p2:=Oc j hj _ sr;obtain⟨e,e1,e2,e3⟩:=JQ hj sr p2 hm;have qN:e.on<j:=by
           have:=bJ.1 p2 e e1;rw[e2] at this;simpa [jB] using this
          rcases e3 with rfl|e3
          .exact qN
          .have:=kT e.on qN (by omega) e3;omega
        obtain⟨e,e1,e2,e3⟩:=JQ h1 eC (Oc i' h1 _ eC) Bu;have h4:=bJ.1 (h3 _ eC) e e1;rw[e2] at h4;simp only[tw,rF,decide_eq_true_eq] at h4;rcases e3 with e3|e3
        .omega
        .have:=ah i e.on (by omega) e3;omega
   rw[HY] at hr;simp only[pv,ho] at hr;simp only[aw,aC] at hr;obtain⟨r1,jO,q,hq,rfl⟩:=hr;simp only[p9,aw] at ao;obtain⟨ρ1,hρ1,hρ2⟩:=ao;have sm:∀d,o.dst=some d->¬nf ops (List.range i') d/\d<a.tmps.size:=by
        intro d hd;refine⟨λ⟨i2,o2,yq,jh,dZ⟩=>?_,?_⟩
        .have aB:i2≠i':=by have:=cm.1 yq;omega
         exact xT.dst_once bn jh ho dZ hd aB
        .have:=bJ.1 az.2 o (by simpa using iX ho);simp only[hd,aq] at this;rw[hn];simpa [jB] using this.2
   have kP:pU o.op=true:=by
        have:=bJ.1 az.2 o (by simpa using iX ho);simp only[aq] at this;exact this.1
   have hj:∀j want t,o.guard=some (j,want)->(ops[j]?).bind (·.dst)=some t->nf ops (List.range i') t:=by
        intro j want t il ht;rw[aw] at ht;obtain⟨oj,h1,h2⟩:=ht;have vW:=bJ.1 gx o (by simpa using iX ho);simp only[il] at vW;obtain⟨e,kL,l8⟩:=tz.1 vW;simp only[aq] at l8;have h4:=bJ.1 (h3 o ho) e kL;rw[l8.1] at h4;simp only[tw,rF,decide_eq_true_eq] at h4;exact⟨j,oj,cm.2 (by rw[<-dq l8.2];exact h4),h1,h2⟩
   have main:=JR (rd:=rd) (K:=wpAnyIn (FR rd) 0 C.P .any ops Q k (listed.setIfInBounds i' true)) (Q:=Q) hg hC aR hΦ hY kP sm hj jO hρ1 (λa' w' fW gz=>by
        have:(λu=>nf ops (List.range i') u\/o.dst=some u)=nf ops (List.range (i'+1)):=by
         funext u;apply propext;constructor
         .rintro(⟨i2,o2,h1,h2,h3⟩|h1)
          .exact⟨i2,o2,cm.2 (by have:=cm.1 h1;omega),h2,h3⟩
          .exact⟨i',o,cm.2 (by omega),ho,h1⟩
         .rintro⟨i2,o2,g1,g2,g3⟩;by_cases e:i2=i'
          .rw[e,ho] at g2;cases g2;exact .inr g3
          .exact .inl ⟨i2,o2,cm.2 (by have:=cm.1 g1;omega),g2,g3⟩
        rw[this] at fW;refine ih (i'+1) _ (by omega) (by omega) (by simpa using aH) (λj=>?_) (gz.size.trans hn) fW hq hρ2 (λa2 w2 s2 g2=>hQ a2 w2 ((gz.mono λt e=>⟨o,by simpa using iX ho,e⟩).trans s2) g2);simp only[fb,xw];by_cases cK:i'=j
        .subst cK;simp[aH,bp]
        .rw[if_neg cK];have:=hl j;simp only[fb] at this;rw[this];by_cases ah:j<i'
         .rw[decide_eq_true ah,decide_eq_true (by omega:j<i'+1)]
         .rw[decide_eq_false ah,decide_eq_false (by omega:¬j<i'+1)])
   simp only[wpOpIn,ho];split
   .rename_i hw;rw[if_pos hw] at main;exact main
   .rename_i hw;rw[if_neg hw] at main;exact⟨λ_ _=>trivial,main⟩
end
def M0 (C:Ctx)(n:Nat)(ids:List Nat)(ops:Array Oper)(draw:Bool)(S:Snap):Option (Snap×List PI):=
 bif sV n ops then
    bif draw then
     bif Bl ops&&R5 ops&&C.P.follows .mixedOrders then
        match Zu C ops (S.st ids) with
        |some r=>some (⟨xh (gf r.1) r.1 S.rs (ops.toList.filterMap (·.dst)),ids.map λj=>jr r.1 (r.1.o j)⟩,r.2)
        |none=>
        (oS C ops (List.range ops.size) (S.st ids)).bind λX=>Ez X λX=>Ez (q6 X ops.size) λnc=>
         (Snap.hard ⟨S.rs.map λs=>mi (S.st ids) (db s),ids.map λj=>jr (S.st ids) ((S.st ids).o j)⟩ λT0=>Hf ops (tL C.P ops) (SQ C ops n ids X nc) ops.size [(0,T0)]).map λT=>(⟨T.rs.map (gf (T.stO ids)),ids.map λj=>jr (T.stO ids) ((T.stO ids).o j)⟩,X.flatten)
     else none
    else bif ZG ops then(pv C ops (List.range ops.size) (S.st ids)).map λr=>(⟨xh (gf r.1) r.1 S.rs (ops.toList.filterMap (·.dst)),ids.map λj=>jr r.1 (r.1.o j)⟩,r.2) else none
 else none
def MZ (C:Ctx)(n:Nat)(ids:List Nat)(ops:Array Oper)(draw:Bool)(S:Snap):Option (Snap×List PI):=
 (M0 C n ids ops draw S).bind λr=>r.1.hard λT=>some (T,r.2)
def atE (C:Ctx)(n:Nat)(ids:List Nat)(ops:Array Oper)(draw:Bool)(S:Snap):MZ C n ids ops draw S=M0 C n ids ops draw S:=by
 unfold MZ;cases M0 C n ids ops draw S with
 |none=>rfl
 |some r=>rw[lh,Snap.hard_eq]
def zx (ops:Array Oper)(E:Nat):Nat->Prop:=λt=>∃i o,ay E i=true/\ops[i]?=some o/\o.dst=some t
section
variable {C:Ctx} {S:St} {O:Env} {V:Im} {own:Nat->Option Nat} {hv:Nat->Value} {w0:World} {σ0:Base} {A:Nat->Prop} {a:Act} {w:World} {n:Nat} {ids:List Nat} {Z:aV}
def MW {ops:Array Oper}{listed:Array Bool}{E:Nat}(aH:listed.size=ops.size)(hl:∀i,listed.getD i false=ay E i)(i:Nat):i∈Region.ready .any ops listed↔i∈m8 ops E:=by
 unfold Region.ready m8;simp only[eW,cm];refine and_congr_right λhi=>?_;have h1:listed.getD i true=ay E i:=by
  rw[<-hl i];simp only[fb];rw[eT (by omega)];rfl
 have h2:ops[i]?=some ops[i]:=eT hi;rw[h1,h2];simp only[lU,nZ,<-Xu,hl]
def aua {rd:Option Nat}(hC:CtxOK C σ0)(aR:eU C)(hΦ:ei C Z)(hY:rL C Z w0 σ0){a0:Act}(QL:a0.tmps.size=n){ops:Array Oper}(az:sV n ops=true)(gx:Bl ops=true){X:List (List PI)}{Q:Exit->Act->World->Prop}{O':Env}(BN:R5 ops=true)(hQp:∀c a w,¬Q (.panic c) a w):
 ∀(k:Nat) {L:List (Nat×Snap)} {T:Snap},Hf ops (tL C.P ops) (SQ C ops n ids X (q6 X ops.size)) k L=some T->
  (∀a' w',SameBut (rU ops) a0 a'->Good C w0 σ0 (T.stO ids) O' (λt=>∃E,zx ops E t) a' w'->Q .normal a' w')->
  ∀(E:Nat) (U:Snap),(E,U)∈L->∀(listed:Array Bool) (O:Env) (a:Act) (w:World),listed.size=ops.size->(∀i,listed.getD i false=ay E i)->SameBut (rU ops) a0 a->
   Good C w0 σ0 (U.stO ids) O (zx ops E) a w->PI.runs Z (fC X (List.range ops.size) E) O=some O'->wpAnyIn (FR rd) 0 C.P .any ops Q k listed a w:=by
 simp only[sV,aq] at az;have bn:=nJ az.1;intro k
 induction k with
 |zero=>
  intro L T hs hQ E U hm listed O a w aH hl hn hg ao;simp only[Hf] at hs;split at hs
  case h_2=>cases hs
  rename_i x;cases aI:(List.range ops.size).all (ay x.1)<;>simp only[aI,zyx,zyw] at hs
  .cases hs
  cases hs;simp only[oZ] at hm;subst hm;simp only at aI hg hQ ao hl;have jH:=bJ.1 aI;have Qp:fC X (List.range ops.size) E=[]:=by
   unfold fC;rw[ahK];intro i hi;rw[jH i hi];rfl
  rw[Qp] at ao;simp only[PI.runs,aS] at ao;subst ao;refine⟨?_,hQ a w hn ?_⟩
  .rw[XH];intro i hi;rw[MW aH hl] at hi;unfold m8 at hi;simp only[eW,aq,iY] at hi;rw[jH i hi.1] at hi;cases hi.2.1
  .obtain⟨V,own,hv,h⟩:=hg;exact⟨V,own,hv,h.defers,h.ok,h.le,h.old,h.newc,h.newm,h.below,h.bw,h.owns,h.regs,h.objs,λt gs s e=>⟨λg hm=>⟨E,(h.opts t gs s e).1 g hm⟩,(h.opts t gs s e).2⟩,h.frame⟩
 |succ k ih=>
  intro L T hs hQ E U hm listed O a w aH hl hn hg ao;simp only[Hf,aw] at hs;obtain⟨L',hL,hs⟩:=hs;obtain⟨_,cL⟩:=abK hL;obtain⟨aB,Rj⟩:=cL _ hm;have anU:m8 ops E≠[]:=λe=>aB (by unfold qq;rw[e];rfl)
  have bU:∀i,i∈qq ops (tL C.P ops) E->i∈m8 ops E:=λi hi=>by
   unfold qq at hi;split at hi
   .rename_i i' hp;rw[oZ.1 hi];exact(Nm hp).1
   .exact hi
  have step:∀i,i∈qq ops (tL C.P ops) E->∀Q':Exit->Act->World->Prop,wpOpIn (FR rd) 0 C.P ops Q' i (wpAnyIn (FR rd) 0 C.P .any ops Q k (listed.setIfInBounds i true)) a w:=by
   intro i hi Q';obtain⟨y,hy,hyL⟩:=Rj i hi;have hi:=bU i hi;unfold m8 at hi;simp only[eW,cm,aq,iY] at hi;obtain⟨bp,dN,vS⟩:=hi;simp only[SQ] at hy;split at hy
   case h_2=>cases hy
   rename_i o ho;simp only[aw] at hy;obtain⟨r,hr,hy⟩:=hy;cases hc:(PI.beqs r.2 (X.getD i [])&&((q6 X ops.size).getD i []).all (ay E))<;>simp only[hc,zyx,zyw] at hy
   .cases hy
   cases hy;simp only[aq] at hc;have hX:=PI.beqs_eq _ _ hc.1;rw[afQ bp dN hc.2,aw] at ao;obtain⟨ρ1,hρ1,hρ2⟩:=ao;rw[<-hX] at hρ1;rw[ho] at vS;simp only at vS;have sm:∀d,o.dst=some d->¬zx ops E d/\d<a.tmps.size:=by
        intro d hd;refine⟨λ⟨i',o',cN,eC,fI⟩=>?_,?_⟩
        .have aB:i'≠i:=λe=>by subst e;rw[dN] at cN;cases cN
         exact xT.dst_once bn eC ho fI hd aB
        .have:=bJ.1 az.2 o (by simpa using iX ho);simp only[hd,aq] at this;rw[hn.size,QL];simpa [jB] using this.2
   have kP:pU o.op=true:=by
        have:=bJ.1 az.2 o (by simpa using iX ho);simp only[aq] at this;exact this.1
   have hj:∀j want t,o.guard=some (j,want)->(ops[j]?).bind (·.dst)=some t->zx ops E t:=by
        intro j want t il ht;rw[aw] at ht;obtain⟨oj,h1,h2⟩:=ht;have vW:=bJ.1 gx o (by simpa using iX ho);simp only[il] at vW;obtain⟨e,kL,l8⟩:=tz.1 vW;simp only[aq] at l8;have h3:=bJ.1 vS e kL;rw[l8.1] at h3;simp only[tw,rF] at h3;exact⟨j,oj,by rw[<-dq l8.2];exact h3,h1,h2⟩
   have main:=JR (rd:=rd) (K:=wpAnyIn (FR rd) 0 C.P .any ops Q k (listed.setIfInBounds i true)) (Q:=Q') hg hC aR hΦ hY kP sm hj hr hρ1 (λa' w' fW sv=>by
        have hA:(λu=>zx ops E u\/o.dst=some u)=zx ops (Nat.lor E (eI i)):=by
         funext u;apply propext;constructor
         .rintro(⟨i',o',h1,h2,h3⟩|h1)
          .exact⟨i',o',by rw[j4,h1,zI],h2,h3⟩
          .exact⟨i,o,by rw[j4,ja,oY],ho,h1⟩
         .rintro⟨i',o',h1,h2,h3⟩;rw[j4,fQ] at h1;rcases h1 with h1|h1
          .exact .inl ⟨i',o',h1,h2,h3⟩
          .rw[<-dq h1,ho] at h2;cases h2;exact .inr h3
        rw[hA] at fW
        refine ih hs hQ _ _ hyL _ ρ1 a' w' (by simpa using aH) (λj=>?_) (hn.trans (sv.mono λt e=>⟨o,by simpa using iX ho,e⟩)) (by
         have:=fW.snapO U.rs.length ids
         rw[show r.1.snapO U.rs.length ids=⟨xh (mi r.1) r.1 U.rs o.dst.toList,ids.map λj=>jr r.1 (r.1.o j)⟩ from by
          unfold St.snapO;rw[Hk λt ht=>?_];rw[YI hr t (λe=>ht (by rw[e];simp))];rfl] at this
         exact this) hρ2
        rw[j4];simp only[fb,xw];by_cases cK:i=j
        .subst cK;simp[aH,bp]
        .rw[if_neg cK,fS cK,vj,<-hl j];simp only[fb])
   simp only[wpOpIn,ho];split
   .rename_i hw;rw[if_pos hw] at main;exact main
   .rename_i hw;rw[if_neg hw] at main;exact⟨λ_ _=>trivial,main⟩
  cases Q3:C2 (tL C.P ops) E (m8 ops E) with
  |none=>
   have l6:qq ops (tL C.P ops) E=m8 ops E:=by unfold qq;rw[Q3]
   refine⟨λhe=>?_,λi hi=>step i (by rw[l6];exact(MW aH hl i).1 hi) Q⟩;exfalso;refine anU ?_;rw[XH];intro i hi;rw[<-MW aH hl,he] at hi;cases hi
  |some i=>
   have l6:qq ops (tL C.P ops) E=[i]:=by unfold qq;rw[Q3]
   obtain⟨hir,b,hb,amL⟩:=Nm Q3;obtain⟨oi,hoi,Q5,kc⟩:=aiD hb;obtain⟨v,hv,hK⟩:=asG hoi Q5 (step i (by rw[l6];simp) _);refine axI (λj o ho=>?_) hoi (λj o cs b' ho e=>?_) (λc a' w' h=>(hQp _ _ _ h).elim) k listed a w (λj oj hj fq oG eY=>kc j oj hj fq (λKM=>?_) eY) ((MW aH hl i).2 hir) hv hK
   .have:=bJ.1 az.2 o (by simpa using iX ho);simp only[aq] at this;exact this.1
   .have:=bJ.1 BN o (by simpa using iX ho);rw[e] at this;cases this
   .have h1:=bJ.1 amL j KM;have h2:=hl j;rw[h1] at h2;simp only[fb] at h2 oG;cases ox:listed[j]? with
    |none=>rw[ox] at h2;cases h2
    |some x=>
     rw[ox] at h2 oG;simp only[nZ] at h2 oG;rw[h2] at oG;cases oG
def af8 {ops:Array Oper}:∀{l:List Nat} {S:St} {X:List (List PI)},oS C ops l S=some X->X.length=l.length
 |[],S,X,h=>by simp only[oS,aS] at h;subst h;rfl
 |i::l,S,X,h=>by
  simp only[oS] at h;split at h
  case h_2=>cases h
  simp only[aw,aC] at h;obtain⟨r,_,q,hq,rfl⟩:=h;simp[af8 hq]
def afR (X:List (List PI)):fC X (List.range X.length) 0=X.flatten:=by
 have h0:∀i,ay 0 i=false:=λi=>by rw[tP];simp
 have key:∀(Y zzt:List (List PI)),fC (Y++zzt) (List.range' Y.length zzt.length) 0=zzt.flatten:=by
  intro Y zzt
  induction zzt generalizing Y with
  |nil=>rfl
  |cons z zzt ih=>
   have:=ih (Y++[z]);simp only[kD,List.singleton_append,jY,mA,tE,fR] at this;rw[mA,HY];have e:fC (Y++z::zzt) (Y.length::List.range' (Y.length+1) zzt.length) 0=(Y++z::zzt).getD Y.length []++fC (Y++z::zzt) (List.range' (Y.length+1) zzt.length) 0:=by
        unfold fC;rw[tA,h0];rfl
   rw[e,this,XL]
   congr 1
   simp[aN]
 have:=key [] X;simp only[tG,tE] at this;rw[N0];exact this
def atG (aR:eU C)(hΦ:ei C Z):N6 C n ids Z (MZ C n ids):=by
 intro id ops draw S r hr rd w0 σ0 O O' a w Q hC hY hn hg ao hQ;rw[atE] at hr;unfold M0 at hr;cases az:sV n ops<;>simp only[az,zyx,zyw] at hr
 .cases hr
 cases draw with
 |false=>
  simp only[zyw] at hr;cases hgb:ZG ops<;>simp only[hgb,zyx,zyw] at hr
  .cases hr
  simp only[aC] at hr;obtain⟨q,hq,rfl⟩:=hr;refine wpIn_region ?_
  have lz:nf ops []=λ_=>False:=by
   funext t;apply propext;constructor
   .rintro⟨i,o,h,_⟩;cases h
   .intro h;exact h.elim
  refine xT hC aR hΦ hY az (List.range ops.size) [] (by simpa using NZ) (λp i q o j want hl ho il=>?_) hn (by rw[lz];exact hg) hq ao (λa' w' ir fW=>hQ a' w' ir (by
   have:=fW.snapF S.rs.length ids
   rw[show q.1.snap S.rs.length ids=⟨xh (gf q.1) q.1 S.rs (ops.toList.filterMap (·.dst)),ids.map λj=>jr q.1 (q.1.o j)⟩ from by
        unfold St.snap;rw[Hk λt ht=>?_];rw[Pj hq t (λi o hi ho e=>ht (vp.2 ⟨o,by simpa using iX ho,e⟩))];show _=gf q.1 (db (S.rs.getD t .none));cases S.rs.getD t .none<;>rfl] at this
   exact this))
  have hi:i<ops.size:=by
   have:i∈List.range ops.size:=by rw[hl];simp
   exact cm.1 this
  have hb:=bJ.1 hgb i (cm.2 hi);rw[ho] at hb;simp only[il,jB] at hb;have hp:=List.pairwise_lt_range (n:=ops.size);have vX:j∈List.range ops.size:=cm.2 (by omega);rw[hl,HX] at hp;obtain⟨_,gy,_⟩:=hp;rw[xF] at gy;rw[hl,dm] at vX;simp only[tG];rcases vX with hm|hm
  .exact hm
  .rcases cZ.1 hm with e|hm
   .omega
   .have:=gy.1 j hm;omega
 |true=>
  simp only[zyx] at hr;cases gx:(Bl ops&&R5 ops&&C.P.follows .mixedOrders)<;>simp only[gx,zyx,zyw] at hr
  .cases hr
  simp only[aq] at gx;have BN:=gx.1.2
  replace gx:Bl ops=true/\C.P.follows .mixedOrders=true:=⟨gx.1.1,gx.2⟩
  have h0:∀i,ay 0 i=false:=λi=>by rw[tP];simp
  split at hr
  case h_1=>
   rename_i r jM;cases hr;generalize wk:qd (ew ops ops.size) ops.size=m at*;unfold Zu at jM;rw[wk] at jM;have anR:m<=ops.size:=wk▸ags _ _;have BR:∀i,m<=i->i<ops.size->∀j,j<i->ay ((ew ops ops.size).getD i 0) j=true:=wk▸agr _ _;rw[aw] at jM;obtain⟨q,hq,jM⟩:=jM;cases v7:Ej ops (q6 (q.map (·.2)) m) (ew ops ops.size) m<;>simp only[v7,zyx,zyw] at jM
   .cases jM
   rw[aC] at jM;obtain⟨r1,jO,rfl⟩:=jM;refine wpIn_region_any gx.2 ?_
   have lz:xe ops 0=λ_=>False:=by
        funext t;apply propext;constructor
        .rintro⟨i,o,h,_⟩;rw[h0] at h;cases h
        .intro h;exact h.elim
   have hlen:(q.map (·.2)).length=m:=by rw[gp];exact(PM hq).1
   have aoN:tl ops 0=ops.size:=by
        unfold tl;have:((List.range ops.size).filter λi=> !ay 0 i)=List.range ops.size:=NT.2 λi _=>by rw[h0];rfl
        rw[this,HU]
   have EJ:(List.range m).filter (ay 0)=[]:=zM.2 λi _=>by rw[h0];simp
   simp only[p9,aw] at ao;obtain⟨ρ1,hρ1,hρ2⟩:=ao;have QY:=v7;unfold Ej at QY;rw[aq] at QY;refine akQ (w0:=w0) (S:=S.st ids) hC aR hΦ hY hn az gx.1 anR hq v7 BR (O':=ρ1) (λlisted a' w' aH hl ir fW=>?_) ops.size 0 _ O a _ aoN (λj hj=>by rw[h0] at hj;cases hj) (λj _ hj=>by rw[h0] at hj;cases hj) (by simp) (λi=>?_) (.refl _ _) ?_ ?_
   .refine auE hC aR hΦ hY az gx.1 QY.2 BR (ops.size-m) m listed (by omega) (aY _) aH hl (ir.size.trans hn) fW jO hρ2 (λa2 w2 s2 g2=>hQ a2 w2 (ir.trans s2) (by
     have:=g2.snapF S.rs.length ids
     rw[show r1.1.snap S.rs.length ids=⟨xh (gf r1.1) r1.1 S.rs (ops.toList.filterMap (·.dst)),ids.map λj=>jr r1.1 (r1.1.o j)⟩ from by
      unfold St.snap;rw[Hk λt ht=>?_];rw[Pj jO t (λi o hi ho e=>ht (vp.2 ⟨o,by simpa using iX ho,e⟩))]
      have e1:gD ops (q.map (·.1)) (List.range m) (S.st ids).r t=(S.st ids).r t:=Hi λi hi e=>by
        rw[aw] at e;obtain⟨o,ho,hd⟩:=e;exact ht (vp.2 ⟨o,by simpa using iX ho,hd⟩)
      show gf _ (S.rs.getD t .none)=gf _ (gD ops (q.map (·.1)) (List.range m) (S.st ids).r t);rw[e1];show _=gf _ (db (S.rs.getD t .none));cases S.rs.getD t .none<;>rfl] at this
     exact this))
   .rw[h0];simp only[fb,ahu];split<;>rfl
   .rw[lz,EJ];exact hg.drew
   .rw[<-hlen,afR];exact hρ1
  simp only[ZZ,Snap.hard_eq,aw,aC] at hr;obtain⟨X,hX,T,hT,rfl⟩:=hr;refine wpIn_mono (Q:=λe a w=>(∀c,e≠.panic c)/\Q e a w) ?_ λe a w h=>h.2;refine wpIn_region_any gx.2 ?_
  have lz:zx ops 0=λ_=>False:=by
   funext t;apply propext;constructor
   .rintro⟨i,o,h,_⟩;rw[h0] at h;cases h
   .intro h;exact h.elim
  have hlen:=af8 hX;rw[HU] at hlen
  refine aua (w0:=w0) hC aR hΦ hY hn az gx.1 (O':=O') BN (λc a w h=>h.1 c rfl) ops.size hT (λa' w' ir fW=>⟨λc e=>(by cases e),hQ a' w' ir (by
   have:=fW.snapF T.rs.length ids
   rw[show(T.stO ids).snap T.rs.length ids=⟨T.rs.map (gf (T.stO ids)),ids.map λj=>jr (T.stO ids) ((T.stO ids).o j)⟩ from by
        unfold St.snap;have:=Hk (g:=gf (T.stO ids)) (S:=T.stO ids) (rs:=T.rs) (ds:=[]) (λt _=>rfl);rw[<-this];rfl] at this
   exact this)⟩) 0 _ (oZ.2 rfl) _ O a _ (by simp) (λi=>?_) (.refl _ _) ?_ ?_
  .rw[h0];simp only[fb,ahu];split<;>rfl
  .rw[lz];have:=(hg.drew).snapO S.rs.length ids
   rw[show(S.st ids).snapO S.rs.length ids=⟨S.rs.map λs=>mi (S.st ids) (db s),ids.map λj=>jr (S.st ids) ((S.st ids).o j)⟩ from by
        unfold St.snapO
        have:=Hk (g:=λs=>mi (S.st ids) (db s)) (S:=S.st ids) (rs:=S.rs) (ds:=[]) (λt _=>by
         show mi _ (db (S.rs.getD t .none))=mi _ (db (db (S.rs.getD t .none)));cases S.rs.getD t .none<;>rfl)
        have h2:(λt=>mi (S.st ids) (db ((S.st ids).r t)))=λt=>mi (S.st ids) ((S.st ids).r t):=by
         funext t;show mi _ (db (db (S.rs.getD t .none)))=mi _ (db (S.rs.getD t .none));cases S.rs.getD t .none<;>rfl
        rw[h2] at this;rw[<-this];rfl] at this
   exact this
  .rw[<-hlen,afR];exact ao
end
end Cx
