/-
  Code: sequences, choices, blocks, loops.
-/
import Derived.LoopNIn
import Derived.Test.YtipjidjopglknaaGreatDoorMAE
import Derived.LoopN
set_option linter.defProp false
set_option linter.unusedSimpArgs false
set_option linter.unusedVariables false
namespace Cx
open Go Go.RowKit
def aA (m t:Nat):Bool:= !Nat.beq (Nat.land 1 (Nat.shiftRight m t)) 0
def tX (m t:Nat):aA m t=m.testBit t:=by
 unfold aA Nat.testBit;show(!Nat.beq (1&&& (m>>>t)) 0)=((1&&& (m>>>t))!=0)
 generalize 1&&& (m>>>t)=x;cases x<;>rfl
def eC (t:Nat):Nat:=Nat.shiftLeft 1 t
def se (t:Nat):aA (eC t) t=true:=by
 rw[tX];show(1<<<t).testBit t=true;simp[Nat.testBit_shiftLeft]
def gd (m k t:Nat):aA (Nat.lor m k) t=(aA m t||aA k t):=by
 simp only[tX];exact Nat.testBit_or m k t
def PI.mask:PI->Nat
 |.setR t _=>eC t|.call _ t _ _=>eC t|.callc _ t _ _=>eC t|_=>0
def MF:List PI->Nat
 |[]=>0
 |p::l=>Nat.lor p.mask (MF l)
def PI.objs:PI->List Nat
 |.setO j _=>[j]|.mcall j _ _=>[j]|_=>[]
def fR (l:List Nat)(x:Nat):Bool:=l.any (Nat.beq x)
def kj (a b:List Nat):List Nat:=a.foldl (λacc x=>bif fR acc x then acc else x::acc) b
def ae1 (l:List PI):List Nat:=l.foldl (λacc p=>kj p.objs acc) []
def rp (l:List Nat)(x:Nat):fR l x=true↔x∈l:=by
 unfold fR;rw[xY];constructor
 .rintro⟨y,hy,h⟩;rw[aC h];exact hy
 .intro h;exact⟨x,h,iL x⟩
def rq {x:Nat}:∀{a b:List Nat},x∈kj a b↔x∈a\/x∈b
 |[],b=>by simp[kj]
 |y::a,b=>by
  have ih:=@rq x a (bif fR b y then b else y::b);have e:kj (y::a) b=kj a (bif fR b y then b else y::b):=rfl;rw[e,ih];cases hb:fR b y
  .simp[or_assoc,or_left_comm]
  .have:=(rp b y).1 hb;simp only[zyy,cU];constructor
   .rintro(h|h)
    .exact .inl (.inr h)
    .exact .inr h
   .rintro((h|h)|h)
    .subst h;exact .inr this
    .exact .inl h
    .exact .inr h
def avF {x:Nat}(l:List PI)(h:x∈l.flatMap PI.modO):x∈ae1 l:=by
 have key:∀(l:List PI) (acc:List Nat),(x∈l.flatMap PI.modO\/x∈acc)->x∈l.foldl (λacc p=>kj p.objs acc) acc:=by
  intro l
  induction l with
  |nil=>intro acc h;simpa using h
  |cons p l ih=>
   intro acc h;refine ih _ ?_;rw[xZ,dH] at h;rcases h with(h|h)|h
   .refine .inr (rq.2 (.inl ?_));cases p<;>simp_all [PI.modO,PI.objs]
   .exact .inl h
   .exact .inr (rq.2 (.inr h))
 exact key l [] (.inl h)
def aeA {t:Nat}:∀(l:List PI),t∈l.flatMap PI.modR->aA (MF l) t=true
 |[],h=>by simp at h
 |p::l,h=>by
  rw[xZ,dH] at h;simp only[MF,gd,fZ];rcases h with h|h
  .left;cases p<;>simp[PI.modR] at h<;>subst h<;>exact se _
  .exact .inr (aeA l h)
structure Res2 where
 pc:PC
 out:Option Snap
 ex:List (Nat×Snap)
 mr:Nat
 mo:List Nat
 deriving Inhabited
def ns:Option Snap->Option Snap->Option Snap
 |none,x=>x
 |x,none=>x
 |some a,some b=>some (a.meet b)
def pQ (id:Nat):List (Nat×Snap)->Option Snap->Option Snap
 |[],acc=>acc
 |x::l,acc=>pQ id l (bif Nat.beq x.1 id then ns acc (some x.2) else acc)
def iter (step:Snap->Option Res2):Nat->Snap->Option (Snap×Res2)
 |0,_=>none
 |k+1,S=>(step S).bind λr=>
  match r.out with
  |none=>some (S,r)
  |some T=>bif (S.meet T).beq S then some (S,r) else iter step k (S.meet T)
def ld (S:Snap)(m:Nat):List Nat:=(List.range S.rs.length).filter λt=>aA m t&& !isNone (cS (S.rs.getD t .none))
def j7 (ids:List Nat)(S:Snap)(l:List Nat):List Nat:=l.filter λj=> !pK (dT ids S.os j)
def iI:Res2:=⟨.is [IU],none,[],0,[]⟩
def nG (Z:aQ)(N:Nat)(O:Env)(x:Out):iI.pc.ev Z N O≠some x:=by
 intro h;simp[iI,PC.ev,PI.runs,PI.run,IU,PE.ev,D.b_bool] at h
def nH:(∀t,t∈iI.pc.modR->aA iI.mr t=true)/\∀j,j∈iI.pc.modO->j∈iI.mo:=by
 constructor<;>intro t h<;>simp[iI,PC.modR,PC.modO,PI.modR,PI.modO,IU] at h
def cP:Code->List Nat
 |.region _ ops _=>ops.toList.filterMap (·.dst)
 |.seq a b=>cP a++cP b
 |.cond _ a b=>cP a++cP b
 |.block _ a=>cP a
 |.loop a=>cP a
 |_=>[]
def zA (l:List Nat):Nat:=l.foldr (λt m=>Nat.lor (eC t) m) 0
def uM (m:Nat):Nat->List Sh->List Sh
 |_,[]=>[]
 |t,s::l=>(bif aA m t then .none else s)::uM m (t+1) l
def Snap.mask (m:Nat)(S:Snap):Snap:=⟨uM m 0 S.rs,S.os⟩
def uv:Sh->Sh
 |.yv=>.none
 |s=>s
def tu:List Nat->List Ty->List Sh->List Sh
 |p::ps,y::ys,l=>tu ps ys (l.set p (.dat y))
 |_,_,l=>l
def Snap.start (ps:List Nat)(ys:List Ty)(S:Snap):Snap:=⟨tu ps ys (S.rs.map uv),S.os⟩
def aet (ids:List Nat)(l:List Snap)(mo:List Nat):List Nat:=mo.filter λj=>l.any λS=> !pK (dT ids S.os j)
def ayx (wm:Nat)(ra rb:Res2):Res2:=
 let m:=Nat.lor wm (Nat.lor ra.mr rb.mr)
 ⟨.seq ra.pc rb.pc,rb.out.map (Snap.mask m),rb.ex.map (λx=>(x.1,x.2.mask m)),m,kj ra.mo rb.mo⟩
def ir (ids:List Nat)(id:Nat)(r:Res2):Res2:=
    match pQ id r.ex r.out with
    |some M=>⟨.block id (ld M r.mr) (j7 ids M r.mo) r.pc,some M,r.ex.filter λx=> !Nat.beq x.1 id,r.mr,r.mo⟩
    |none=>⟨.block id [] [] r.pc,none,r.ex.filter λx=> !Nat.beq x.1 id,r.mr,r.mo⟩
def w8:List (Nat×Nat)->Nat->Option Nat
 |[],_=>none
 |x::l,t=>bif Nat.beq x.1 t then some x.2 else w8 l t
def l8 (pr:Nat):List Oper->List (Nat×Nat)->Option (List (Nat×Nat))
 |[],acc=>some acc
 |o::l,acc=>
  match o.dst,o.guard with
  |some d,none=>
   bif Nat.beq d pr||(w8 acc d).isSome then none else
   match o.op with
   |.extract (.tmp t) i=>bif Nat.beq t pr&&Nat.ble i 1 then l8 pr l (acc++[(d,i)]) else none
   |.assign (.tmp t)=>(w8 acc t).bind λi=>l8 pr l (acc++[(d,i)])
   |.move (.tmp t)=>(w8 acc t).bind λi=>l8 pr l (acc++[(d,i)])
   |_=>none
  |_,_=>none
structure MP where
 it:Nat
 nx:Nat
 mo:Nat
 out:Nat
 next:Nat
 pr:Nat
 ops1:Array Oper
 ops2:Array Oper
 aa:List (Nat×Nat)
 deriving Inhabited
def CN (x y:Code)(k:Nat)(z:Code):Option MP:=
 match x,y,z with
 |.region _ ops1 false,.cond (.tmp mo) .skip (.exit out),.region _ ops2 false=>
  match ops1.toList,ops2.toList with
  |[o1,o2],o3::l=>
   match o1.dst,o1.guard,o1.op,o2.dst,o2.guard,o2.op,o3.dst,o3.guard,o3.op with
   |some nx,none,.next (.tmp it) false,some mo',none,.extract (.tmp nx') 0,some pr,none,.entry (.tmp it')=>
    bif Nat.beq mo mo'&&Nat.beq nx nx'&&Nat.beq it it'&& !Nat.beq it nx&& !Nat.beq it mo&& !Nat.beq it pr&& !Nat.beq nx mo&& !Nat.beq out di&& !Nat.beq k di then
     (l8 pr l []).map λaa=>⟨it,nx,mo,out,k,pr,ops1,ops2,aa⟩
    else none
   |_,_,_,_,_,_,_,_,_=>none
  |_,_=>none
 |_,_,_=>none
def zr:List Nat->Nat->List Ob->List Ob
 |i::is,J,o::os=>(bif Nat.beq i J then .dead else o)::zr is J os
 |_,_,os=>os
def Snap.kill (ids:List Nat)(J:Nat)(S:Snap):Snap:=⟨S.rs,zr ids J S.os⟩
def adY (J:Nat)(kt et:Ty)(ids:List Nat)(p:MP)(m:Nat)(S:Snap):Bool:=
 Sh.beq (S.rs.getD p.it .none) (.obj J 0)&&Ob.beq (dT ids S.os J) (.it kt et)&& !aA m p.it
def CO (ids:List Nat)(n:Nat)(p:MP)(ws:List Nat)(f:Snap->Option Res2)(S:Snap):Option Res2:=
 match cS (S.rs.getD p.it .none) with
 |.obj J 0=>
  match dT ids S.os J with
  |.it kt et=>
   let ps:=p.aa.map (·.1)
   let ys:=p.aa.map λx=>bif Nat.beq x.2 0 then kt else et
   let m:=zA ws
   match iter (λS=>(f ((S.mask m).start ps ys)).map (ir ids p.next)) 8 S with
   |some r=>
    bif r.2.ex.isEmpty&& !fR r.2.mo J&&adY J kt et ids p m r.1&&ix ps&&ps.all (λt=>Nat.blt t n)&&Nat.blt p.nx n&&Nat.blt p.mo n&&Nat.blt p.pr n&&Nat.beq (Nat.lor m r.2.mr) m then
       some ⟨.seq (.meach J ps (p.aa.map (·.2)) (j7 ids r.1 r.2.mo) r.2.pc) (.exit p.out),none,[(p.out,(r.1.mask m).kill ids J)],0,r.2.mo⟩
    else some iI
   |none=>some iI
  |_=>some iI
 |_=>some iI
def comp (C:Ctx)(fn:Func)(s:Sig)(n:Nat)(ids:List Nat)(R:Array Oper->Bool->Snap->Option (Snap×List PI)):Bool->Code->Snap->Option Res2
 |_,.skip,S=>some ⟨.skip,some S,[],0,[]⟩
 |_,.region _ ops draw,S=>(R ops draw S).map λr=>⟨.is r.2,some r.1,[],MF r.2,ae1 r.2⟩
 |rm,.seq a b,S=>(comp C fn s n ids R rm a S).bind λr=>
  match r.out with
  |none=>some r
  |some S1=>(comp C fn s n ids R rm b S1).map λq=>⟨.seq r.pc q.pc,q.out,r.ex++q.ex,Nat.lor r.mr q.mr,kj r.mo q.mo⟩
 |rm,.cond c a b,S=>
  match use C (S.st ids) [] c with
  |some (.bool,e)=>
   (comp C fn s n ids R rm a S).bind λr=>(comp C fn s n ids R rm b S).map λq=>
     match ns r.out q.out with
     |some M=>⟨.ite e (ld M (Nat.lor r.mr q.mr)) (j7 ids M (kj r.mo q.mo)) r.pc q.pc,some M,r.ex++q.ex,Nat.lor r.mr q.mr,kj r.mo q.mo⟩
     |none=>⟨.ite e [] [] r.pc q.pc,none,r.ex++q.ex,Nat.lor r.mr q.mr,kj r.mo q.mo⟩
  |_=>some iI
 |rm,.block id a,S=>bif Nat.beq id di then some iI else(comp C fn s n ids R rm a S).map (ir ids id)
 |rm,.loop (.seq x (.seq y (.block k (.seq z code)))),S=>
  (match CN x y k z with
  |some p=>CO ids n p (cP x++(cP y++(cP z++cP code))) (λS=>comp C fn s n ids R rm code S) S
  |none=>
  match iter (λS=>comp C fn s n ids R rm (.seq x (.seq y (.block k (.seq z code)))) S) 8 S with
  |some r=>some ⟨.loop (ld r.1 r.2.mr) (j7 ids r.1 r.2.mo) r.2.pc,none,r.2.ex,r.2.mr,r.2.mo⟩
  |none=>some iI)
 |rm,.loop a,S=>
  match iter (λS=>comp C fn s n ids R rm a S) 8 S with
  |some r=>some ⟨.loop (ld r.1 r.2.mr) (j7 ids r.1 r.2.mo) r.2.pc,none,r.2.ex,r.2.mr,r.2.mo⟩
  |none=>some iI
 |_,.exit id,S=>bif Nat.beq id di then some iI else some ⟨.exit id,none,[(id,S)],0,[]⟩
 |rm,.ret,S=>
  bif rm then some ⟨.exit di,none,[(di,S)],0,[]⟩ else
  match Ao C fn s (S.st ids) with
  |some e=>some ⟨.ret e,none,[],0,[]⟩
  |none=>some iI
 |rm,.rangeFunc g ps a b,S=>
  match rm,C.yl,use C (S.st ids) [] g with
  |false,none,some (.fn aa r,e)=>
   match kF aa r with
   |some ys=>
    match iter (λS=>(comp C fn s n ids R true a (S.start ps.toList ys)).bind λra=>
          match ra.out,ra.ex with
          |some S1,[]=>(comp C fn s n ids R true b S1).map (ayx (zA (ps.toList++cP a++cP b)) ra)
          |_,_=>none) 8 S with
    |some r=>
     bif Nat.beq ys.length ps.size&&ix ps.toList&&ps.toList.all (λp=>Nat.blt p n)&&Nat.ble r.1.rs.length n then
           some ⟨.seq (.is [.callc [] n e []]) (.each (.r n) ps.toList (aet ids (r.1::r.2.ex.map (·.2)) r.2.mo) ((pQ di r.2.ex none).bind λM=>Ao C fn s (M.st ids)) r.2.pc),
            some r.1,r.2.ex.filter (λx=> !Nat.beq x.1 di),eC n,r.2.mo⟩
     else some iI
    |none=>some iI
   |none=>some iI
  |_,_,_=>some iI
 |_,_,_=>some iI
termination_by structural _ c=>c
def zy:Code->Option (MP×Code×List Nat)
 |.seq x (.seq y (.block k (.seq z code)))=>(CN x y k z).map λp=>(p,code,cP x++(cP y++(cP z++cP code)))
 |_=>none
def aa6 (C:Ctx)(fn:Func)(s:Sig)(n:Nat)(ids:List Nat)(R:Array Oper->Bool->Snap->Option (Snap×List PI))(rm:Bool)(a:Code)(S:Snap):comp C fn s n ids R rm (.loop a) S=
 match zy a with
 |some q=>CO ids n q.1 q.2.2 (λS=>comp C fn s n ids R rm q.2.1 S) S
 |none=>
  match iter (λS=>comp C fn s n ids R rm a S) 8 S with
  |some r=>some ⟨.loop (ld r.1 r.2.mr) (j7 ids r.1 r.2.mo) r.2.pc,none,r.2.ex,r.2.mr,r.2.mo⟩
  |none=>some iI:=by
 by_cases h:∃x y k z code,a=.seq x (.seq y (.block k (.seq z code)))
 .obtain⟨x,y,k,z,code,rfl⟩:=h
  conv=>lhs;unfold comp
  simp only[zy];cases CN x y k z<;>rfl
 .have e:zy a=none:=by
   unfold zy;split
   .rename_i x y k z code;exact absurd ⟨x,y,k,z,code,rfl⟩ h
   .rfl
  rw[e];rw[comp];intro x y k z code e;exact h ⟨x,y,k,z,code,e⟩
def subs:Code->List Code
 |.seq a b=>.seq a b::(subs a++subs b)
 |.cond c a b=>.cond c a b::(subs a++subs b)
 |.block i a=>.block i a::subs a
 |.loop a=>.loop a::subs a
 |.rangeFunc g ps a b=>.rangeFunc g ps a b::(subs a++subs b)
 |c=>[c]
def aza (c:Code):c∈subs c:=by cases c<;>simp[subs]
def aHM {a code:Code}{p:MP}{ws:List Nat}(h:zy a=some (p,code,ws)):code∈subs a:=by
 unfold zy at h;split at h
 .simp only[aD] at h;obtain⟨q,_,e⟩:=h;cases e;simp[subs,aza]
 .cases h
def Ps (C:Ctx)(n:Nat)(ids:List Nat)(Z:aQ)(R:Array Oper->Bool->Snap->Option (Snap×List PI)):Prop:=
 ∀(id:Nat) (ops:Array Oper) (draw:Bool) (S:Snap) (r:Snap×List PI),R ops draw S=some r->
  ∀(rd:Option Nat) (w0:World) (σ0:Base) (O O':Env) (a:Act) (w:World) (Q:Exit->Act->World->Prop),CtxOK C σ0->qz C Z w0 σ0->a.tmps.size=n->Good C w0 σ0 (S.st ids) O (λ_=>False) a w->PI.runs Z r.2 O=some O'->
   (∀a' w',SameBut (sm ops) a a'->Good C w0 σ0 (r.1.st ids) O' (λ_=>False) a' w'->Q .normal a' w')->(Code.region id ops draw).wpIn (FR rd) 0 C.P Q a w
section
variable {C:Ctx} {O O':Env} {V:Im} {own:Nat->Option Nat} {hv:Nat->Value} {w0:World} {σ0:Base} {A:Nat->Prop} {a:Act} {w:World} {Z:aQ} {n:Nat} {ids:List Nat} {fn:Func} {s:Sig}
 {R:Array Oper->Bool->Snap->Option (Snap×List PI)}
def iN (C:Ctx)(w0:World)(σ0:Base)(ids:List Nat)(fn:Func)(s:Sig)(rm:Bool)(wr:Nat->Prop)(a0:Act)(out:Option Snap)(ex:List (Nat×Snap))(x:Out):Exit->Act->World->Prop
 |.normal,a,w=>∃O S,x=.next O/\out=some S/\SameBut wr a0 a/\Good C w0 σ0 (S.st ids) O (λ_=>False) a w
 |.exit id,a,w=>∃O S,x=.exit id O/\id≠di/\(id,S)∈ex/\SameBut wr a0 a/\Good C w0 σ0 (S.st ids) O (λ_=>False) a w
 |.ret,a,w=>match rm with
  |false=>∃d,x=.ret d/\rY C w0 σ0 fn s d a.tmps a.defers w/\SameBut wr a0 a
  |true=>∃O S,x=.exit di O/\(di,S)∈ex/\SameBut wr a0 a/\Good C w0 σ0 (S.st ids) O (λ_=>False) a w
 |_,_,_=>False
def Good.meet1 {x y:Snap}(h:Good C w0 σ0 (x.st ids) O A a w):Good C w0 σ0 ((x.meet y).st ids) O (λ_=>False) a w:=by
 obtain⟨V,own,hv,h⟩:=h;exact⟨V,own,hv,Snap.meet_ok1 h⟩
def Good.meet2 {x y:Snap}(h:Good C w0 σ0 (y.st ids) O A a w):Good C w0 σ0 ((x.meet y).st ids) O (λ_=>False) a w:=by
 obtain⟨V,own,hv,h⟩:=h;exact⟨V,own,hv,Snap.meet_ok2 h⟩
def aeH {x:Snap}{y:Option Snap}{M:Snap}(h:Good C w0 σ0 (x.st ids) O (λ_=>False) a w)(hm:ns (some x) y=some M):Good C w0 σ0 (M.st ids) O (λ_=>False) a w:=by
 cases y<;>simp[ns] at hm<;>subst hm
 .exact h
 .exact h.meet1
def aeI {x:Option Snap}{y:Snap}{M:Snap}(h:Good C w0 σ0 (y.st ids) O (λ_=>False) a w)(hm:ns x (some y)=some M):Good C w0 σ0 (M.st ids) O (λ_=>False) a w:=by
 cases x<;>simp[ns] at hm<;>subst hm
 .exact h
 .exact h.meet2
def aeJ {x:Snap}{y:Option Snap}:∃M,ns (some x) y=some M:=by cases y<;>simp[ns]
def aeK {x:Option Snap}{y:Snap}:∃M,ns x (some y)=some M:=by cases x<;>simp[ns]
def MG {id:Nat}:∀(l:List (Nat×Snap)) {x:Snap},Good C w0 σ0 (x.st ids) O (λ_=>False) a w->∃M,pQ id l (some x)=some M/\Good C w0 σ0 (M.st ids) O (λ_=>False) a w
 |[],x,h=>⟨x,rfl,h⟩
 |y::l,x,h=>by
  simp only[pQ];cases Nat.beq y.1 id
  .exact MG l h
  .obtain⟨M,hM⟩:=@aeJ x (some y.2);simp only[zyy,hM];exact MG l (aeH h hM)
def Tw {id:Nat}{S:Snap}(h:Good C w0 σ0 (S.st ids) O (λ_=>False) a w):∀(l:List (Nat×Snap)) (x:Option Snap),(id,S)∈l->∃M,pQ id l x=some M/\Good C w0 σ0 (M.st ids) O (λ_=>False) a w
 |y::l,x,hm=>by
  simp only[pQ];rcases cU.1 hm with e|hm
  .subst e;simp only[iL,zyy];obtain⟨M,hM⟩:=@aeK x S;rw[hM];exact MG l (aeI h hM)
  .exact Tw h l _ hm
def GJ {step:Snap->Option Res2}:∀(k:Nat) {S:Snap} {r:Snap×Res2},iter step k S=some r->
 step r.1=some r.2/\(∀T,r.2.out=some T->r.1.meet T=r.1)/\∀{O:Env} {a:Act} {w:World},Good C w0 σ0 (S.st ids) O (λ_=>False) a w->Good C w0 σ0 (r.1.st ids) O (λ_=>False) a w
 |0,S,r,h=>by simp[iter] at h
 |k+1,S,r,h=>by
  simp only[iter,ay] at h;obtain⟨q,hq,h⟩:=h;split at h
  .rename_i ho;cases h;exact⟨hq,λT hT=>by simp[ho] at hT,λg=>g⟩
  .rename_i T ho;cases hb:(S.meet T).beq S<;>simp only[hb,zyy,zyx] at h
   .obtain⟨h1,h2,h3⟩:=GJ k h;exact⟨h1,h2,λg=>h3 g.meet1⟩
   .cases h;refine⟨hq,λT' hT=>?_,λg=>g⟩;simp only[ho,aX] at hT;subst hT;exact Snap.beq_eq _ _ hb
def ad2 {step:Snap->Option Res2}{hv:Nat->Value}:∀(k:Nat) {S:Snap} {r:Snap×Res2},iter step k S=some r->Inv C (S.st ids) O V own hv w0 σ0 (λ_=>False) a w->Inv C (r.1.st ids) O V own hv w0 σ0 (λ_=>False) a w
 |0,S,r,h,_=>by simp[iter] at h
 |k+1,S,r,h,i=>by
  simp only[iter,ay] at h;obtain⟨q,hq,h⟩:=h;split at h
  .cases h;exact i
  .rename_i T ho;cases hb:(S.meet T).beq S<;>simp only[hb,zyy,zyx] at h
   .exact ad2 k h (Snap.meet_ok1 i)
   .cases h;exact i
def Good.joined {M:Snap}{m:Nat}{mo mr' mo':List Nat}(h:Good C w0 σ0 (M.st ids) O' (λ_=>False) a w)(hb:O.but O' mr' mo')(h1:∀t,t∈mr'->aA m t=true)(h2:∀j,j∈mo'->j∈mo):
 Good C w0 σ0 (M.st ids) (O.join (ld M m) (j7 ids M mo) O') (λ_=>False) a w:=by
 obtain⟨V,own,hv,h⟩:=h;refine⟨V,own,hv,h.env (Snap.noOpt _ _) (λt ht=>?_) (λj hj=>?_)⟩
 .simp only[Env.join,Env.put,uT];split
  .rfl
  .rename_i hm;refine(hb.r t λGa=>hm ?_).symm;have ak:t<M.rs.length:=by
        refine aai λhle=>?_;simp only[Snap.st,aK,tM hle,Option.getD_none,cS,isNone] at ht;cases ht
   exact eO.2 ⟨cw.2 ak,by rw[h1 t Ga];simpa [Snap.st] using ht⟩
 .simp only[Env.join,Env.put,uT];split
  .rfl
  .rename_i hm;refine(hb.o j λGa=>hm ?_).symm;exact eO.2 ⟨h2 j Ga,by simpa [Snap.st] using hj⟩
def MH {S:Snap}{m t:Nat}(h:t∈ld S m):aA m t=true:=by
 have:=(eO.1 h).2;simp only[au] at this;exact this.1
def CP {S:Snap}{l:List Nat}{j:Nat}(h:j∈j7 ids S l):j∈l:=(eO.1 h).1
def aaK {id:Nat}{q:Res2}(h:(∀t,t∈q.pc.modR->aA q.mr t=true)/\∀j,j∈q.pc.modO->j∈q.mo):(∀t,t∈(ir ids id q).pc.modR->aA (ir ids id q).mr t=true)/\∀j,j∈(ir ids id q).pc.modO->j∈(ir ids id q).mo:=by
 unfold ir;cases hm:pQ id q.ex q.out<;>simp only
 .simpa [PC.modR,PC.modO] using h
 .refine⟨λt ht=>?_,λj hj=>?_⟩
  .simp only[PC.modR,dH] at ht;exact ht.elim MH (h.1 t)
  .simp only[PC.modO,dH] at hj;exact hj.elim CP (h.2 j)
def avy {p:MP}{ws:List Nat}{f:Snap->Option Res2}{S:Snap}{r:Res2}(h:CO ids n p ws f S=some r):(∀t,t∈r.pc.modR->aA r.mr t=true)/\∀j,j∈r.pc.modO->j∈r.mo:=by
 unfold CO at h;split at h
 case h_2=>cases h;exact nH
 split at h
 case h_2=>cases h;exact nH
 simp only at h;split at h
 case h_2=>cases h;exact nH
 rw[qp] at h;split at h
 .cases h;refine⟨λt ht=>by simp[PC.modR] at ht,λj hj=>?_⟩;simp only[PC.modO,km] at hj;exact CP hj
 .cases h;exact nH
def vU:∀(c:Code) {rm:Bool} {S:Snap} {r:Res2},comp C fn s n ids R rm c S=some r->(∀t,t∈r.pc.modR->aA r.mr t=true)/\∀j,j∈r.pc.modO->j∈r.mo:=by
 intro c
 induction c with
 |skip=>intro rm S r h;simp only[comp,aX] at h;subst h;simp[PC.modR,PC.modO]
 |region id ops draw=>
  intro rm S r h;simp only[comp,aD] at h;obtain⟨q,_,rfl⟩:=h;exact⟨λt ht=>aeA _ ht,λj hj=>avF _ hj⟩
 |seq x y j6 zn=>
  intro rm S r h;simp only[comp,ay] at h;obtain⟨q,hq,h⟩:=h;split at h
  .cases h;exact j6 hq
  .simp only[aD] at h;obtain⟨p,hp,rfl⟩:=h;refine⟨λt ht=>?_,λj hj=>?_⟩
   .simp only[PC.modR,dH] at ht;rw[gd,fZ];exact ht.imp ((j6 hq).1 t) ((zn hp).1 t)
   .simp only[PC.modO,dH] at hj;rw[rq];exact hj.imp ((j6 hq).2 j) ((zn hp).2 j)
 |cond c x y j6 zn=>
  intro rm S r h;simp only[comp] at h;split at h
  case h_2=>cases h;exact nH
  rename_i e _;simp only[ay,aD] at h;obtain⟨q,hq,p,hp,rfl⟩:=h;cases hm:ns q.out p.out<;>simp only[hm]
  .refine⟨λt ht=>?_,λj hj=>?_⟩
   .simp only[PC.modR,dH,vJ] at ht;rw[gd,fZ];exact ht.imp ((j6 hq).1 t) ((zn hp).1 t)
   .simp only[PC.modO,dH,vJ] at hj;rw[rq];exact hj.imp ((j6 hq).2 j) ((zn hp).2 j)
  .refine⟨λt ht=>?_,λj hj=>?_⟩
   .simp only[PC.modR,dH] at ht;rw[gd,fZ];rcases ht with(ht|ht)|ht
    .have:=MH ht;rw[gd,fZ] at this;exact this
    .exact .inl ((j6 hq).1 t ht)
    .exact .inr ((zn hp).1 t ht)
   .simp only[PC.modO,dH] at hj;rcases hj with(hj|hj)|hj
    .exact CP hj
    .exact rq.2 (.inl ((j6 hq).2 j hj))
    .exact rq.2 (.inr ((zn hp).2 j hj))
 |block id x j6=>
  intro rm S r h;simp only[comp] at h;cases cX:Nat.beq id di<;>simp only[cX,zyy,zyx] at h
  case true=>cases h;exact nH
  simp only[aD] at h;obtain⟨q,hq,rfl⟩:=h;exact aaK (j6 hq)
 |loop x j6=>
  intro rm S r h;rw[aa6] at h;split at h
  .exact avy h
  split at h
  case h_2=>cases h;exact nH
  rename_i q hq;cases h;have hs:=(GJ (C:=C) (w0:=default) (σ0:=Base.mk0 ⟨λ_ _=>none,λ_=>none⟩ 0) (ids:=ids) 8 hq).1;refine⟨λt ht=>?_,λj hj=>?_⟩
  .simp only[PC.modR,dH] at ht;exact ht.elim MH ((j6 hs).1 t)
  .simp only[PC.modO,dH] at hj;exact hj.elim CP ((j6 hs).2 j)
 |exit id=>
  intro rm S r h;simp only[comp] at h;cases cX:Nat.beq id di<;>simp only[cX,zyy,zyx] at h<;>cases h
  .simp[PC.modR,PC.modO]
  .exact nH
 |ret=>
  intro rm S r h;simp only[comp] at h;cases rm<;>simp only[zyy,zyx] at h
  case true=>cases h;simp[PC.modR,PC.modO]
  split at h
  .cases h;simp[PC.modR,PC.modO]
  .cases h;exact nH
 |rangeFunc g ps x y _ _=>
  intro rm S r h;simp only[comp] at h;split at h
  case h_2=>cases h;exact nH
  split at h
  case h_2=>cases h;exact nH
  split at h
  case h_2=>cases h;exact nH
  rename_i q hq;rw[qp] at h;split at h
  .cases h;refine⟨λt ht=>?_,λj hj=>?_⟩
   .simp[PC.modR,PI.modR] at ht;subst ht;exact se _
   .simp only[PC.modO,PI.modO,xZ,aaa,km,vJ] at hj;exact(eO.1 hj).1
  .cases h;exact nH
 |_=>intro rm S r h;simp only[comp,aX] at h;subst h;exact nH
def iN.mono {rm:Bool}{wr:Nat->Prop}{a0 a1:Act}{out ag3:Option Snap}{ex ex':List (Nat×Snap)}{x:Out}{e:Exit}(h:iN C w0 σ0 ids fn s rm wr a0 out ex x e a w)(he:∀y,y∈ex->y∈ex')(hs:SameBut wr a1 a0)
 (ho:e=.normal->ag3=out):iN C w0 σ0 ids fn s rm wr a1 ag3 ex' x e a w:=by
 cases e with
 |normal=>obtain⟨O,S,h1,h2,h3,h4⟩:=h;exact⟨O,S,h1,by rw[ho rfl];exact h2,hs.trans h3,h4⟩
 |exit id=>obtain⟨O,S,h1,h2,h3,h4,h5⟩:=h;exact⟨O,S,h1,h2,he _ h3,hs.trans h4,h5⟩
 |ret=>
  cases rm with
  |false=>obtain⟨d,h1,h2,h3⟩:=h;exact⟨d,h1,h2,hs.trans h3⟩
  |true=>obtain⟨O,S,h1,h3,h4,h5⟩:=h;exact⟨O,S,h1,he _ h3,hs.trans h4,h5⟩
 |_=>exact h.elim
def abo {body:Env->Option Out}{O:Env}{ps lo:List Nat}{rt:Option PE}{x:Out}:∀{xs vo:List D},jD body O ps lo rt xs vo=some x->
 ∃(m:Nat) (nK:Nat->List D),m<=xs.length/\nK 0=vo/\
  (∀i,i<m->∃y O',xs[i]?=some y/\body (O.put ps (partsOf ps y) lo (nK i))=some (.next O')/\lo.map O'.o=nK (i+1))/\
  ((m=xs.length/\x=.next (O.put [] [] lo (nK m)))\/
   (m<xs.length/\∃y id O',xs[m]?=some y/\body (O.put ps (partsOf ps y) lo (nK m))=some (.exit id O')/\
    ((id≠di/\x=.exit id (O.put [] [] lo (lo.map O'.o)))\/(id=di/\∃e,rt=some e/\x=.ret (e.ev (O.put [] [] lo (lo.map O'.o)))))))
 |[],vo,h=>by
  simp only[jD,aX] at h;exact⟨0,λ_=>vo,bj _,rfl,λi hi=>by omega,.inl ⟨rfl,h.symm⟩⟩
 |y::xs,vo,h=>by
  simp only[jD] at h;split at h
  .rename_i O' hb;obtain⟨m,nK,h1,h2,h3,h4⟩:=abo h;refine⟨m+1,λi=>match i with|0=>vo|i+1=>nK i,by simp;omega,rfl,λi hi=>?_,?_⟩
   .cases i with
    |zero=>exact⟨y,O',rfl,hb,h2.symm⟩
    |succ i=>simpa using h3 i (by omega)
   .rcases h4 with⟨e1,e2⟩|⟨e1,z,id,ρ2,e2,e3,e4⟩
    .exact .inl ⟨by simp[e1],e2⟩
    .exact .inr ⟨by simp;omega,z,id,ρ2,by simpa using e2,e3,e4⟩
  .rename_i id O' hb;refine⟨0,λ_=>vo,qx _,rfl,λi hi=>by omega,.inr ⟨by simp,y,id,O',rfl,hb,?_⟩⟩;cases cX:Nat.beq id di<;>simp only[cX,zyy,zyx] at h
   .refine .inl ⟨λe=>?_,(vM h).symm⟩;subst e;simp at cX
   .simp only[aD] at h;obtain⟨e,he,e2⟩:=h;exact .inr ⟨aC cX,e,he,e2.symm⟩
  .cases h
def aaI {l:List Nat}{t:Nat}(h:t∈l):aA (zA l) t=true:=by
 induction l with
 |nil=>cases h
 |cons x l ih=>
  have e:zA (x::l)=Nat.lor (eC x) (zA l):=rfl;rw[e,gd];rcases cU.1 h with e|e
  .subst e;rw[se];rfl
  .rw[ih e];simp
def Tu (m:Nat):∀(l:List Sh) (k t:Nat),(uM m k l).getD t .none=if aA m (k+t)=true then .none else l.getD t .none
 |[],k,t=>by simp[uM]
 |s::l,k,0=>by
  simp only[uM,qs,jA];cases aA m k<;>rfl
 |s::l,k,t+1=>by
  simp only[uM,vF];rw[Tu m l (k+1) t,show k+1+t=k+(t+1) by omega]
def GS (m:Nat)(S:Snap)(t:Nat):((S.mask m).st ids).r t=if aA m t=true then .none else(S.st ids).r t:=by
 show cS ((uM m 0 S.rs).getD t .none)=if aA m t=true then .none else cS (S.rs.getD t .none);rw[Tu,iM];split<;>rfl
def avD {m:Nat}{x S:Snap}{t:Nat}(h:aA m t=true):((x.meet (S.mask m)).st ids).r t=.none:=by
 show cS ((List.zipWith j8 x.rs (uM m 0 S.rs)).getD t .none)=.none;rcases O8 (f:=j8) x.rs (uM m 0 S.rs) t with h0|⟨s,u,h1,h2,h3⟩
 .rw[h0];rfl
 .rw[Tu,iM,if_pos h] at h2;subst h2;rw[h3];cases s<;>rfl
def Inv.maskR {S:Snap}{hv:Nat->Value}(h:Inv C (S.st ids) O V own hv w0 σ0 A a w)(m:Nat):Inv C ((S.mask m).st ids) O V own hv w0 σ0 (λ_=>False) a w:=by
 have hc:Compat (S.st ids) hv ((S.mask m).st ids) hv:=⟨λ_=>bj _,λ_ _=>rfl⟩
 refine h.weaken (λt=>?_) (λj=>?_) (Snap.noOpt _ _) (λj hj=>⟨hj,rfl⟩)
 .refine aI.mono' (O:=O) (.refl V) hc (Snap.noOpt _ _ t) ?_;rw[GS];split
  .trivial
  .exact h.regs t
 .exact(h.objs j).mono (.refl V) hc rfl rfl (λk hk=>⟨hk,rfl⟩)
def Wu:∀(ps:List Nat) (ys:List Ty) (l:List Sh),ps.length=ys.length->ix ps=true->∀t,(tu ps ys l).getD t .none=.none\/(t∉ps/\(tu ps ys l).getD t .none=l.getD t .none)\/∃(i:Nat) (y:Ty),ps[i]?=some t/\ys[i]?=some y/\(tu ps ys l).getD t .none=.dat y
 |[],ys,l,_,_,t=>.inr (.inl ⟨by simp,by cases ys<;>rfl⟩)
 |p::ps,[],l,h,_,t=>by simp at h
 |p::ps,y::ys,l,h,hn,t=>by
  have gE:=mH hn;rw[nO] at gE;have dv:ix ps=true:=by
   simp only[ix,au] at hn;exact hn.2
  show(tu ps ys (l.set p (.dat y))).getD t .none=_\/_\/_;rcases Wu ps ys (l.set p (.dat y)) (by simpa using h) dv t with e|⟨e1,e2⟩|⟨i,z,e1,e2,e3⟩
  .exact .inl e
  .by_cases hp:t=p
   .subst hp;by_cases ak:t<l.length
    .exact .inr (.inr ⟨0,y,rfl,rfl,by show(tu ps ys (l.set t (.dat y))).getD t .none=_;rw[e2];simp[aK,ak]⟩)
    .left;rw[e2];simp[aK,ak]
   .refine .inr (.inl ⟨by simp[hp,e1],?_⟩);show(tu ps ys (l.set p (.dat y))).getD t .none=_;rw[e2];simp only[aK,Eb];rw[if_neg (λe=>hp e.symm)]
  .exact .inr (.inr ⟨i+1,z,by simpa using e1,by simpa using e2,e3⟩)
def nE:List Nat->List Value->Array Value->Array Value
 |p::ps,v::vs,T=>nE ps vs (T.setIfInBounds p v)
 |_,_,T=>T
def ayU (ps:Array Nat)(vs:Array Value)(T:Array Value):(ps.zip vs).foldl (λT x=>T.setIfInBounds x.1 x.2) T=nE ps.toList vs.toList T:=by
 rw[<-Array.foldl_toList,Array.toList_zip];generalize ps.toList=l;generalize vs.toList=k
 induction l generalizing k T with
 |nil=>rfl
 |cons p l ih=>
  cases k with
  |nil=>rfl
  |cons v k=>simpa [nE] using ih (T.setIfInBounds p v) k
def ai7:∀(ps:List Nat) (vs:List Value) (T:Array Value),(nE ps vs T).size=T.size
 |[],vs,T=>by cases vs<;>rfl
 |p::ps,[],T=>rfl
 |p::ps,v::vs,T=>by simp[nE,ai7 ps vs]
def Ow:∀(ps:List Nat) (vs:List Value) (T:Array Value) (t:Nat),t∉ps->(nE ps vs T).getD t undef=T.getD t undef
 |[],vs,T,t,_=>by cases vs<;>rfl
 |p::ps,[],T,t,_=>rfl
 |p::ps,v::vs,T,t,h=>by
  simp only[cU,not_or] at h;simp only[nE];rw[Ow ps vs _ t h.2];simp only[eM,xS];rw[if_neg (λe=>h.1 e.symm)]
def ai6:∀(ps:List Nat) (vs:List Value) (T:Array Value) (i t:Nat),ps.Nodup->ps.length=vs.length->(∀p,p∈ps->p<T.size)->ps[i]?=some t->(nE ps vs T).getD t undef=vs.getD i undef
 |p::ps,v::vs,T,0,t,hn,hl,ak,h=>by
  simp at h;subst h;rw[nO] at hn;simp only[nE];rw[Ow ps vs _ p hn.1];simp[xS,ak p (dZ ..)]
 |p::ps,v::vs,T,i+1,t,hn,hl,ak,h=>by
  rw[nO] at hn;simp only[nE];have:=ai6 ps vs (T.setIfInBounds p v) i t hn.2 (by simpa using hl) (λq hq=>by simpa using ak q (dV _ hq)) (by simpa using h);simpa using this
 |p::ps,[],T,i,t,hn,hl,ak,h=>by simp at hl
 |[],vs,T,i,t,hn,hl,ak,h=>by simp at h
def Dg (f:Nat->D):∀(ps:List Nat) (vs:List D) (t:Nat),t∉ps->putL f ps vs t=f t
 |[],vs,t,_=>by cases vs<;>rfl
 |p::ps,[],t,_=>rfl
 |p::ps,v::vs,t,h=>by
  simp only[cU,not_or] at h;simp only[putL,bF _ _ h.1];exact Dg f ps vs t h.2
def UE (f:Nat->D):∀(ps:List Nat) (vs:List D) (i t:Nat),ps.Nodup->ps.length=vs.length->ps[i]?=some t->putL f ps vs t=vs.getD i .none
 |p::ps,v::vs,0,t,hn,hl,h=>by
  simp at h;subst h;simp[putL,aP]
 |p::ps,v::vs,i+1,t,hn,hl,h=>by
  rw[nO] at hn;have ht:t∈ps:=ko (by simpa using h);have aB:t≠p:=λe=>hn.1 (e▸ht);simp only[putL,bF _ _ aB];have:=UE f ps vs i t hn.2 (by simpa using hl) (by simpa using h);simpa using this
 |p::ps,[],i,t,hn,hl,h=>by simp at hl
 |[],vs,i,t,hn,hl,h=>by simp at h
def awX (ps:List Nat)(ds:List D)(i:Nat)(h:i<ps.length):(partsOf ps (.tup ds)).getD i .none=ds.getD i .none:=by
 simp[partsOf,aK,h,D.tget]
def awW (ps:List Nat)(x:D):(partsOf ps x).length=ps.length:=by simp[partsOf]
def Inv.startR {S:Snap}{hv:Nat->Value}(h:Inv C (S.st ids) O V own hv w0 σ0 A a w){ps:List Nat}{ys:List Ty}{args:List Value}{ds:List D}{lo:List Nat}{vo:List D}(hl:ps.length=ys.length)(bC:ix ps=true)(ak:∀p,p∈ps->p<a.tmps.size)(ha:qo C V ys args ds)
 (hρ:O=O'.put [] [] lo vo):Inv C ((S.start ps ys).st ids) (O'.put ps (partsOf ps (.tup ds)) lo vo) V own hv w0 σ0 (λ_=>False) {tmps:=nE ps args a.tmps,defers:=[]} w:=by
 obtain⟨a1,a2,a3⟩:=ha;have hn:=mH bC;have hc:Compat (S.st ids) hv ((S.start ps ys).st ids) hv:=⟨λ_=>bj _,λ_ _=>rfl⟩
 have ho:∀j,(O'.put ps (partsOf ps (.tup ds)) lo vo).o j=O.o j:=λj=>by rw[hρ];rfl
 refine⟨trivial,h.ok,h.le,h.old,h.newc,h.newm,h.below,h.bw,h.owns,λt=>?_,λj=>(h.objs j).mono (.refl V) hc rfl (ho j) (λk hk=>⟨hk,rfl⟩),λt gs s e=>absurd e (Snap.noOpt _ _ t gs s),?_⟩
 .show aI C _ _ V hv (cS ((tu ps ys (S.rs.map uv)).getD t .none)) ((nE ps args a.tmps).getD t undef) (putL O'.r ps (partsOf ps (.tup ds)) t);rcases Wu ps ys (S.rs.map uv) hl bC t with e|⟨e1,e2⟩|⟨i,y,e1,e2,e3⟩
  .rw[e];trivial
  .rw[e2,Ow _ _ _ _ e1,Dg _ _ _ _ e1];have hr:=h.regs t;change aI C _ O V hv (cS (S.rs.getD t .none)) _ _ at hr;have hρr:O.r t=O'.r t:=by rw[hρ];show putL O'.r [] [] t=_;rfl
   rw[hρr] at hr;have e3:(S.rs.map uv).getD t .none=uv (S.rs.getD t .none):=by
        simp only[aK,cL];cases S.rs[t]?<;>rfl
   rw[e3];generalize S.rs.getD t .none=s at hr;cases s with
   |yv=>trivial
   |opt gs s=>trivial
   |none=>trivial
   |fclo f c=>exact aI.mono' (.refl V) hc (λ_ _ e=>by cases e) hr
   |agg l=>exact aI.mono' (.refl V) hc (λ_ _ e=>by cases e) hr
   |dat t=>exact hr
   |obj j v=>exact aI.mono' (.refl V) hc (λ_ _ e=>by cases e) hr
   |ptr j v o=>exact aI.mono' (.refl V) hc (λ_ _ e=>by cases e) hr
   |eptr j v o q=>exact aI.mono' (.refl V) hc (λ_ _ e=>by cases e) hr
  .rw[e3];have hi:i<ps.length:=(ga.1 e1).1;rw[ai6 ps args a.tmps i t hn (by omega) ak e1,UE _ ps _ i t hn (by rw[awW]) e1,awX _ _ _ hi];exact a3 i y e2
 .obtain⟨t,fx,cx,h1,h2⟩:=h.frame;exact⟨t,fx,cx,h1,λj hj=>⟨(h2 j hj).1,by rw[ho j];exact(h2 j hj).2⟩⟩
def yc (C:Ctx)(Z:aQ)(fn:Func)(s:Sig)(n:Nat)(ids:List Nat)(R:Array Oper->Bool->Snap->Option (Snap×List PI))(N:Nat)(c:Code):Prop:=
 ∀(rm:Bool) (S:Snap) (r:Res2),comp C fn s n ids R rm c S=some r->∀(rd:Option Nat) (w0:World) (σ0:Base) (wr:Nat->Prop) (O:Env) (x:Out) (a:Act) (w:World),(rm=false->rd=none/\σ0.fin)->CtxOK C σ0->qz C Z w0 σ0->(∀t,t∈cP c->wr t)->a.tmps.size=n->
  Good C w0 σ0 (S.st ids) O (λ_=>False) a w->r.pc.ev Z N O=some x->c.wpIn (FR rd) 0 C.P (iN C w0 σ0 ids fn s rm wr a r.out r.ex x) a w
structure Seg (V:Im) (own:Nat->Option Nat) (w:World) (V':Im) (own':Nat->Option Nat) (w':World):Prop where
 le:V.le V'
 below:Below 0 w w'
 same:∀k,k<w.heap.size->own k=none->w'.heap[k]?=w.heap[k]?
 ow:∀k j,own' k=some j->(∃i,own k=some i)\/w.heap.size<=k
 imm:∀k,((∃o x,V'.c k o=some x)\/∃x,V'.m k=some x)->(∃o x,V.c k o=some x)\/(∃x,V.m k=some x)\/(∃i,own k=some i)\/w.heap.size<=k
structure Free (L:Nat) (V:Im) (own:Nat->Option Nat):Prop where
 own:own L=none
 c:∀o,V.c L o=none
 m:V.m L=none
def Free.seg {L:Nat}{V':Im}{own':Nat->Option Nat}{w':World}(h:Free L V own)(hL:L<w.heap.size)(k:Seg V own w V' own' w'):Free L V' own':=by
 have F2:¬((∃o x,V'.c L o=some x)\/∃x,V'.m L=some x):=λe=>by
  rcases k.imm L e with⟨o,x,e⟩|⟨x,e⟩|⟨i,e⟩|e
  .rw[h.c o] at e;cases e
  .rw[h.m] at e;cases e
  .rw[h.own] at e;cases e
  .omega
 refine⟨?_,λo=>?_,?_⟩
 .cases e:own' L with
  |none=>rfl
  |some j=>
   rcases k.ow L j e with⟨i,e⟩|e
   .rw[h.own] at e;cases e
   .omega
 .cases e:V'.c L o with
  |none=>rfl
  |some x=>exact absurd (.inl ⟨o,x,e⟩) F2
 .cases e:V'.m L with
  |none=>rfl
  |some x=>exact absurd (.inr ⟨x,e⟩) F2
def alz (C:Ctx)(w0:World)(σ0:Base)(ids:List Nat)(wr:Nat->Prop)(a0:Act)(V:Im)(own:Nat->Option Nat)(w:World)(out:Option Snap)(ex:List (Nat×Snap))(x:Out)(e:Exit)(a':Act)(w':World):Prop:=
 ∃O' S' V' own' hv',Inv C (S'.st ids) O' V' own' hv' w0 σ0 (λ_=>False) a' w'/\Seg V own w V' own' w'/\SameBut wr a0 a'/\
  match e with
  |.normal=>x=.next O'/\out=some S'
  |.exit id=>x=.exit id O'/\id≠di/\(id,S')∈ex
  |.ret=>x=.exit di O'/\(di,S')∈ex
  |_=>False
def ai1 {N:Nat}{c:Code}(hc:yc C Z fn s n ids R N c){S:Snap}{r:Res2}(hr:comp C fn s n ids R true c S=some r)(la:C.yl=none)(hC:CtxOK C σ0){wr:Nat->Prop}{O:Env}{x:Out}{hv:Nat->Value}(h:Inv C (S.st ids) O V own hv w0 σ0 (λ_=>False) a w)
 (jk:∀t,t∈cP c->wr t) (hn:a.tmps.size=n) (he:r.pc.ev Z N O=some x) (L:Nat):c.wpIn (FR (some L)) 0 C.P (alz C w0 σ0 ids wr a V own w r.out r.ex x) a w:=by
 obtain⟨t,fx,cx,dy,ht⟩:=h.frame;have h1:=h.toRnd (X:=λ_=>False) ht;refine wpIn_mono (hc true S r hr (some L) w0 (σ0.rnd V own w t λ_=>False) wr O x a w (λe=>by cases e) (hC.mono h.le) (λJ ys e=>by rw[la] at e;cases e) jk hn ⟨_,_,_,h1⟩ he) λe a' w' ho=>?_
 have main:∀{S':Snap} {O':Env},SameBut wr a a'->Good C w0 (σ0.rnd V own w t λ_=>False) (S'.st ids) O' (λ_=>False) a' w'->∃V' own' hv',Inv C (S'.st ids) O' V' own' hv' w0 σ0 (λ_=>False) a' w'/\Seg V own w V' own' w'/\SameBut wr a a':=by
  intro S' O' hs hg;obtain⟨V',own',hv',h2⟩:=hg;exact⟨V',own',hv',h.ofRnd dy (λ_ _=>id) h2,⟨h2.le,h.rndBelow h2,λk hk ho=>Inv.rndSame h.ok h2 hk ho id,λk j e=>Inv.rndOwn h2 e id,λk e=>Inv.rndC h2 e id⟩,hs⟩
 cases e with
 |normal=>
  obtain⟨O',S',e1,e2,e3,e4⟩:=ho;obtain⟨V',own',hv',g1,g2,g3⟩:=main e3 e4;exact⟨O',S',V',own',hv',g1,g2,g3,e1,e2⟩
 |exit id=>
  obtain⟨O',S',e1,e0,e2,e3,e4⟩:=ho;obtain⟨V',own',hv',g1,g2,g3⟩:=main e3 e4;exact⟨O',S',V',own',hv',g1,g2,g3,e1,e0,e2⟩
 |ret=>
  obtain⟨O',S',e1,e2,e3,e4⟩:=ho;obtain⟨V',own',hv',g1,g2,g3⟩:=main e3 e4;exact⟨O',S',V',own',hv',g1,g2,g3,e1,e2⟩
 |_=>exact ho.elim
def Inv.putL {L:Nat}{hv:Nat->Value}{S:St}{O:Env}(h:Inv C S O V own hv w0 σ0 A a w)(hL:w0.heap.size<=L)(hf:Free L V own)(hx:∀t fx cx,FrOK V own w0.heap.size σ0 w t fx cx->¬fx L)(o:Obj):Inv C S O V own hv w0 σ0 A a (w.putObj L o):=
 h.keep (X:=λk=>k≠L) ⟨rfl,rfl,rfl,by simp,λk hk=>by omega⟩ (λk hk=>World.putObj_heap_other hk) (λk hk=>by omega) (λk j e1 e2=>by subst e2;rw[hf.own] at e1;cases e1) (λk o v e1 e2=>by subst e2;rw[hf.c] at e1;cases e1)
  (λk v e1 e2=>by subst e2;rw[hf.m] at e1;cases e1) (λt fx cx dy k hk e=>by subst e;exact hx t fx cx dy hk)
def aCY {o:Oper}{L:Nat}{x:Operand}{aa:Array Operand}{ts:Array TypeId}{r:Loop}(bQ:o.op=.call {callee:=.value x,args:=aa,argTypes:=ts})(hx:a.eval x=.func (.yield L) #[] #[])(hL:w.heap[L]?=some (.loop r))(hs:aa.size=r.params.size):
 (execOp a.eval o).run C.P w=.ok (.round L r.fn ((r.params.zip (aa.map a.eval)).foldl (λtmps (t,v)=>tmps.setIfInBounds t v) r.tmps) r.assign r.body) w:=by
 have hy:=run_yield (P:=C.P) (args:=aa.map a.eval) hL (by simpa using hs);simp[execOp,bQ,resolve,hx,Deferred.ofValue,invoke,hy]
def axT {g:Operand}{f:Nat}{vs:List Value}{L:Nat}(hf:∃fn,C.P.funcs[f]?=some fn/\fn.body.isSome=true/\(fn.name== "runtime.NumGoroutine")=false)(hg:a.eval g=.func (.func f) #[] vs.toArray):
 (resolve a.eval (rangeCall g L) 0).run C.P w=.ok {target:=.fn (.func f) vs.toArray,args:=#[.func (.yield L) #[] #[]]} w/\
 (invoke (.fn (.func f) vs.toArray) #[.func (.yield L) #[] #[]]).run C.P w=.ok (.enter f (#[.func (.yield L) #[] #[]]++vs.toArray)) w:=by
 obtain⟨fn,h1,h2,h3⟩:=hf;obtain⟨bd,gi⟩:=aaj.1 h2;have h4:¬fn.name= "runtime.NumGoroutine" :=by simpa using h3
 constructor
 .simp only[resolve,hg];simp[go_sem]
 .simp[invoke,callFunc,h1,gi,h4]
def FrOK.enter {hv:Nat->Value}{S:St}{O:Env}(h:Inv C S O V own hv w0 σ0 A a w){t:D}{fx cx:Nat->Prop}(hf:FrOK V own w0.heap.size σ0 w t fx cx)(r:Loop):FrOK (V.mark w.heap.size) own w0.heap.size σ0 ((w.alloc (.deferred (some []))).alloc (.loop r)) t fx cx:=by
 have hb:=abq w (.deferred (some [])) (.loop r);have ak:=σ0.lt _ _ _ _ hf.F;have cn:=σ0.sub _ _ _ _ hf.F;have y5:∀k x,(V.mark w.heap.size).m k=some x->V.m k=some x\/k=w.heap.size:=by
  intro k x e;simp only[Im.mark] at e;split at e
  .rename_i e2;exact .inr e2
  .exact .inl e
 refine⟨σ0.keep _ _ _ _ _ hf.F (hb.mono (qx _)) λk hk=>hb.block k (ak k hk),hf.own,hf.c,λk x e hc=>?_,λk e hB hk=>?_⟩
 .rcases y5 k x e with e|e
  .exact hf.m k x e hc
  .have:=ak k (cn k hc);omega
 .rcases y5 k _ e with e|e
  .exact hf.d k e hB hk
  .have:=ak k hk;omega
structure RSt (C:Ctx) (w0:World) (σR:Base) (ids:List Nat) (ρ1:Env) (lo:List Nat) (aM:Act) (L:Nat) (W1:World) (σ1:Im) (rec:LoopState->Option Code->Loop) (xs:List D) (P:Nat->List D->Snap->LoopState->Option Code->Prop) (t:D) (fx cx:Nat->Prop) (w:World):Prop where
 lt:∀k,fx k->k<w.heap.size
 sub:∀k,cx k->fx k
 old:∀k,k<W1.heap.size->fx k
 ex:∃(i:Nat) (vo:List D) (Sx:Snap) (st:LoopState) (pe:Option Code) (V:Im) (own:Nat->Option Nat) (hv:Nat->Value),t=.list (xs.take i)/\P i vo Sx st pe/\Inv C (Sx.st ids) (ρ1.put [] [] lo vo) V own hv w0 σR (λ_=>False) aM w/\
  σ1.le V/\Free L V own/\w.heap[L]?=some (.loop (rec st pe))/\(∀k j,own k=some j->fx k)/\(∀k o x,V.c k o=some x->fx k)/\(∀k x,V.m k=some x->fx k)/\∀k,cx k↔((∃j,own k=some j)\/k=L)
def RSt.keep {σR:Base}{ρ1:Env}{lo:List Nat}{aM:Act}{L:Nat}{W1:World}{σ1:Im}{rec:LoopState->Option Code->Loop}{xs:List D}{P:Nat->List D->Snap->LoopState->Option Code->Prop}{t:D}{fx cx:Nat->Prop}{w w':World}
 (h0:w0.heap.size<=W1.heap.size) (hL:L<W1.heap.size) (hR:∀t f c w,σR.F t f c w->∀k,f k->k<W1.heap.size) (h:RSt C w0 σR ids ρ1 lo aM L W1 σ1 rec xs P t fx cx w) (hb:Below 0 w w') (hs:∀k,fx k->w'.heap[k]?=w.heap[k]?):
 RSt C w0 σR ids ρ1 lo aM L W1 σ1 rec xs P t fx cx w':=by
 obtain⟨i,vo,Sx,st,pe,V,own,hv,e1,e2,e3,e4,e5,e6,e7,e8,e9,e10⟩:=h.ex;refine⟨λk hk=>tP (h.lt k hk) hb.size,h.sub,h.old,i,vo,Sx,st,pe,V,own,hv,e1,e2,?_,e4,e5,(hs L (h.old L hL)).trans e6,e7,e8,e9,e10⟩;exact e3.keep (X:=fx) hb hs (λk hk=>h.old k (by omega)) e7 e8 e9 (λt f c hf k hk=>h.old k (hR _ _ _ _ hf.F k hk))
def Im.noM_m {V:Im}{k:Nat}{v:List (Value×Value)}(h:V.noM.m k=some v):V.m k=some v/\v≠cW:=by
 simp only[Im.noM] at h;split at h
 .cases h
 .rename_i aB;exact⟨h,λe=>aB (by rw[h,e])⟩
structure SegL (L:Nat) (V:Im) (own:Nat->Option Nat) (w:World) (V':Im) (own':Nat->Option Nat) (w':World):Prop where
 le:V.le V'
 below:Below 0 w w'
 same:∀k,k<w.heap.size->own k=none->k≠L->w'.heap[k]?=w.heap[k]?
 ow:∀k j,own' k=some j->(∃i,own k=some i)\/w.heap.size<=k
 imm:∀k,((∃o x,V'.c k o=some x)\/∃x,V'.m k=some x)->(∃o x,V.c k o=some x)\/(∃x,V.m k=some x)\/(∃i,own k=some i)\/w.heap.size<=k
def ahh (w:World)(L:Nat)(o:Obj):Below 0 w (w.putObj L o):=⟨rfl,rfl,rfl,by simp,λk hk=>by omega⟩
def Seg.round {L:Nat}{V' V'':Im}{own' ag4:Nat->Option Nat}{w' lx:World}{o o':Obj}(h:Seg V own w V' own' w')(k:Seg V' own' (w'.putObj L o) V'' ag4 lx):SegL L V own w V'' ag4 (lx.putObj L o'):=by
 have aF:=h.below.size;have Ml:=k.below.size;simp only[World.putObj_size] at Ml;refine⟨h.le.trans k.le,h.below.trans ((ahh _ _ _).trans (k.below.trans (ahh _ _ _))),λq hq ho hL=>?_,λq j e=>?_,λq e=>?_⟩
 .have h1:own' q=none:=by
   cases e:own' q with
   |none=>rfl
   |some j=>
    rcases h.ow q j e with⟨i,e⟩|e
    .rw[ho] at e;cases e
    .omega
  rw[World.putObj_heap_other hL,k.same q (by simp;omega) h1,World.putObj_heap_other hL,h.same q hq ho]
 .rcases k.ow q j e with⟨i,e⟩|e
  .exact h.ow q i e
  .simp only[World.putObj_size] at e;exact .inr (by omega)
 .rcases k.imm q e with e|e|⟨i,e⟩|e
  .exact h.imm q (.inl e)
  .exact h.imm q (.inr e)
  .rcases h.ow q i e with e|e
   .exact .inr (.inr (.inl e))
   .exact .inr (.inr (.inr e))
  .simp only[World.putObj_size] at e;exact .inr (.inr (.inr (by omega)))
def Env.put_self (O:Env)(lo:List Nat):O.put [] [] lo (lo.map O.o)=O:=by
 have h2:∀u,putL O.o lo (lo.map O.o) u=O.o u:=λu=>by rw[uT];split<;>rfl
 show Env.mk O.r (putL O.o lo (lo.map O.o))=O;rw[funext h2]
def axU {N:Nat}(eF:gO C Z){g:Operand}{ps:Array Tmp}{ca cb:Code}(bO:yc C Z fn s n ids R N ca)(eY:yc C Z fn s n ids R N cb):yc C Z fn s n ids R N (.rangeFunc g ps ca cb):=by
 intro rm S r hr rd w0 σ0 wr O x a w iw hC hY jk hn hg he;simp only[comp] at hr;split at hr
 case h_2=>cases hr;exact absurd he (nG _ _ _ _)
 rename_i aa rr e la hu;split at hr
 case h_2=>cases hr;exact absurd he (nG _ _ _ _)
 rename_i ys wQ;split at hr
 case h_2=>cases hr;exact absurd he (nG _ _ _ _)
 rename_i q hq;rw[qp] at hr;split at hr
 case isFalse=>cases hr;exact absurd he (nG _ _ _ _)
 rename_i yO;cases hr;simp only[au] at yO;obtain⟨⟨⟨hl,bC⟩,ak⟩,y9⟩:=yO;have hl:=aC hl;have y9:=kp y9;obtain⟨hrd,nX⟩:=iw rfl;subst hrd;obtain⟨hs,Cl,_⟩:=GJ (C:=C) (w0:=w0) (σ0:=σ0) (ids:=ids) 8 hq;simp only[ay] at hs;obtain⟨ra,SB,hs⟩:=hs;split at hs
 case h_2=>cases hs
 rename_i S1 hao hax;simp only[aD] at hs;obtain⟨rb,hrb,j4⟩:=hs;have hma:=vU ca SB;have hmb:=vU cb hrb;obtain⟨q1,q2⟩:=q;simp only at SB j4 y9 Cl he ⊢;generalize yX:aet ids (q1::q2.ex.map (·.2)) q2.mo=lo at he;generalize wK:((pQ di q2.ex none).bind λM=>Ao C fn s (M.st ids))=rt at he;have Gm:∃f caps d,e.ev O=.clo f caps/\Z f caps=some d/\jD (q2.pc.ev Z N) (O.setR n d) ps.toList lo rt d.l (lo.map O.o)=some x:=by
  simp only[PC.ev,PI.runs,PI.run,holds,List.all_nil,zyy] at he;cases bT:e.ev O with
  |clo f caps=>
   rw[bT] at he;simp only[PE.evs,vJ] at he;cases hΦ:Z f caps with
   |none=>rw[hΦ] at he;simp at he
   |some d=>
    rw[hΦ] at he;simp only[kO,kM,PE.ev,Env.setR,aP] at he;exact⟨f,caps,d,rfl,hΦ,he⟩
  |_=>rw[bT] at he;simp at he
 obtain⟨f,caps,d,bT,hΦ,he⟩:=Gm;obtain⟨V,own,hv,i⟩:=hg;have hx:=cK (gs:=[]) i hC rfl hu;rw[bT] at hx;generalize RT:a.eval g=gv at hx;generalize bt:Ty.fn aa rr=ty at hx;cases hx with
 |fn f cs vs ds gj h1 h2 aS=>
 cases bt;obtain⟨hfn,arM⟩:=eF f cs ys gj wQ;obtain⟨xs,rfl,aHq,RV⟩:=arM caps d hΦ;simp only[D.l_list] at he;obtain⟨m,nK,hm,uB,L9,jJ⟩:=abo he;have iq0:=ad2 8 hq i
 have iq:Inv C (q1.st ids) (O.setR n (.list xs)) V own hv w0 σ0 (λ_=>False) a w:=by
  refine iq0.env (Snap.noOpt _ _) (λt ht=>?_) (λ_ _=>rfl);have ak:t<q1.rs.length:=by
   refine aai λhle=>?_;simp only[Snap.st,aK,tM hle,Option.getD_none,cS,isNone] at ht;cases ht
  simp[Env.setR,bF _ _ (show t≠n by omega)]
 obtain⟨ρ1,hρ1⟩:∃ρ1,O.setR n (.list xs)=ρ1:=⟨_,rfl⟩
 rw[hρ1] at he iq L9 jJ;have kA:O.o=ρ1.o:=by rw[<-hρ1];rfl
 rw[kA] at uB;refine wpIn_rangeFunc ?_;intro Rf aG8;obtain⟨L,acb⟩:∃L,w.heap.size+1=L:=⟨_,rfl⟩
 obtain⟨rec,dS⟩:∃rec:LoopState->Option Code->Loop,rec=λst pe=>{state:=st,pending:=pe,fn:=Rf,tmps:=a.tmps,params:=ps,assign:=ca,body:=cb,defers:=w.heap.size}:=⟨_,rfl⟩
 have i1:=iq.enter (rec .ready none);obtain⟨t,fx0,cx0,acE,SL⟩:=iq.frame;have arv:=σ0.lt _ _ _ _ acE.F;have RR:=FrOK.enter iq acE (rec .ready none);have aHo:=iq.below.size;have Ca:Free L (V.mark w.heap.size) own:=by
  refine⟨?_,λo=>?_,?_⟩
  .cases e:own L with
   |none=>rfl
   |some j=>have:=(iq.owns L j e).2.1;omega
  .cases e:V.c L o with
   |none=>exact e
   |some x=>have:=iq.lt e;omega
  .simp only[Im.mark,show L≠w.heap.size by omega,if_false];cases e:V.m L with
   |none=>rfl
   |some x=>have:=iq.ltm e;omega
 have my:V.le (V.mark w.heap.size):=by
  refine⟨λ_ _ _ e=>e,λk x e=>?_⟩;have:k≠w.heap.size:=by have:=iq.ltm e;omega
  simp[Im.mark,this,e]
 have hL1:((w.alloc (.deferred (some []))).alloc (.loop (rec .ready none))).heap[L]?=some (.loop (rec .ready none)):=by
  have:=World.alloc_heap_new (w.alloc (.deferred (some []))) (.loop (rec .ready none));rw[World.size_alloc,acb] at this;exact this
 obtain⟨W1,Rr⟩:∃W1,(w.alloc (.deferred (some []))).alloc (.loop (rec .ready none))=W1:=⟨_,rfl⟩
 have aG1:W1.heap.size=w.heap.size+2:=by rw[<-Rr];simp
 rw[Rr] at i1 RR hL1;have RO:(Instr.enterLoop Rf a.tmps ps ca cb none).run C.P w=.ok (L,[{target:=.collected w.heap.size,args:=#[]}]) W1:=by
  rw[<-Rr,dS,<-acb];exact run_enterLoop_outer _ _ _ _ _
 obtain⟨σ1,hσ1⟩:∃σ1,V.mark w.heap.size=σ1:=⟨_,rfl⟩
 rw[hσ1] at i1 RR Ca my;obtain⟨aM,Rs⟩:∃aM:Act,{a with defers:={target:=.collected w.heap.size,args:=#[]}::a.defers}=aM:=⟨_,rfl⟩
 have FJ:aM.tmps=a.tmps:=by rw[<-Rs]
 rw[Rs] at i1;have iR:=i1.toRnd (t:=t) (X:=λk=>k=L) SL;obtain⟨σR,hσR⟩:∃σR,σ0.rnd σ1 own W1 t (λk=>k=L)=σR:=⟨_,rfl⟩
 have we:∀t' f c w',σR.F t' f c w'->(∀k,f k->k<W1.heap.size/\k≠L)/\∀k,c k->f k/\(∀o,σ1.c k o=none)/\σ1.m k=none:=by
  rw[<-hσR];rintro t' f c w' ⟨_,h2,h3,_⟩;exact⟨λk hk=>⟨((h2 k).1 hk).1,((h2 k).1 hk).2.2.2⟩,λk hk=>(h3 k).1 hk⟩
 have hRC:CtxOK C σR:=by rw[<-hσR];exact hC.mono i1.le
 rw[hσR] at iR
 obtain⟨P,hP⟩:∃P:Nat->List D->Snap->LoopState->Option Code->Prop,P=λi vo Sx st pe=>(i<=m/\vo=nK i/\Sx=q1/\st=.ready/\pe=none)\/
  (i=m+1/\m<xs.length/\st=.done/\∃y id O',xs[m]?=some y/\q2.pc.ev Z N (ρ1.put ps.toList (partsOf ps.toList y) lo (nK m))=some (.exit id O')/\vo=lo.map O'.o/\(id,Sx)∈q2.ex/\((id≠di/\pe=some (.exit id))\/(id=di/\pe=some .ret))):=⟨_,rfl⟩
 obtain⟨c1,c2⟩:=axT (C:=C) (w:=W1) (L:=L) hfn RT;refine⟨L,[{target:=.collected w.heap.size,args:=#[]}],W1,_,W1,f,_,W1,RO,c1,λ_ _=>trivial,c2,(λe=>by cases e),?_⟩
 refine aaR ((RV σ1 W1 (.func (.yield L) #[] #[]) vs (RSt C w0 σR ids ρ1 lo aM L W1 σ1 rec xs P) (λk=>k<W1.heap.size) (λk=>(∃j,own k=some j)\/k=L) m i1.ok (hC.mono i1.le) ⟨h1,h2,λj t e=>(aS j t e).mono my⟩ hm
  (λt f c w h=>h.lt) (λt f c w h=>h.sub) (λt f c w w' h hb hs=>h.keep (by omega) (by omega) (λt f c w hF k hk=>((we t f c w hF).1 k hk).1) hb hs) ?_ ?_ ?_ ?_).mono ?_)
 .refine⟨λk hk=>hk,λk hk=>?_,λk hk=>hk,0,nK 0,q1,.ready,none,σ1,own,hv,by simp,by rw[hP];exact .inl ⟨qx _,rfl,rfl,rfl,rfl⟩,?_,.refl σ1,Ca,hL1,λk j e=>(iR.owns k j e).2.1,λk o x e=>iR.lt e,λk x e=>iR.ltm e,λk=>.rfl⟩
  .rcases hk with⟨j,e⟩|e
   .exact(iR.owns k j e).2.1
   .show k<W1.heap.size;omega
  .rw[uB,Env.put_self];exact iR
 .rintro k o x e (⟨j,hj⟩|rfl)
  .have:=(iR.owns k j hj).2.2.1 o;rw[e] at this;cases this
  .rw[Ca.c] at e;cases e
 .rintro k x e (⟨j,hj⟩|rfl)
  .have:=(iR.owns k j hj).2.2.2;rw[e] at this;cases this
  .rw[Ca.m] at e;cases e
 .intro i fx cx w1 σx args ds' hi eA hF hσx ei jG mu dw cY rd' o a' x' aa ts K Q bQ cC acj hK;have aHa:i<xs.length:=(ga.1 eA).1;obtain⟨i',vo,Sx,st,pe,σa,zO,hva,e1,e2,iA,L4,FH,Lz,Si,hcA,F8,Cj⟩:=hF.ex;have hii:i'=i:=by
   have h9:=congrArg List.length (congrArg D.l e1);simp only[D.l_list,eN] at h9;omega
  subst hii;rw[hP] at e2;rcases e2 with⟨_,rfl,FI,rfl,rfl⟩|⟨e2,_⟩
  case inr=>omega
  rw[FI] at iA;have acd:L<w1.heap.size:=hF.lt L (hF.old L (by omega));have LN:cx L:=(Cj L).2 (.inr rfl)
  have ase:∀k o v,σx.c k o=some v->zO k=none:=λk o v e=>by
   cases e2:zO k with
   |none=>rfl
   |some j=>exact absurd ((Cj k).2 (.inl ⟨j,e2⟩)) (jG k o v e)
  have Gb:∀k v,σx.m k=some v->zO k=none:=λk v e=>by
   cases e2:zO k with
   |none=>rfl
   |some j=>exact absurd ((Cj k).2 (.inl ⟨j,e2⟩)) (mu k v e)
  have hτok:σx.noM.ok w1:=⟨hσx.c,λk v e=>hσx.m k v (Im.noM_m e).1,hσx.f⟩
  have iB:=iA.joinIm (τ:=σx.noM) hτok (λk e=>(Im.noM_m e).2 rfl) ase (λk v e=>Gb k v (Im.noM_m e).1)
   (λk o v e=>(dw k o v e).imp (λe=>L4.c k o v e) λe=>by omega) (λk v e=>(cY k v (Im.noM_m e).1).imp (λe=>L4.m k v e) λe=>by omega)
   (λt' f c hf=>⟨λk o v e hc=>by
        obtain⟨g1,g2,g3⟩:=(we _ _ _ _ hf.F).2 k hc;rcases dw k o v e with e|e
        .rw[g2 o] at e;cases e
        .have:=((we _ _ _ _ hf.F).1 k g1).1;omega,λk v e hc=>by
        obtain⟨g1,g2,g3⟩:=(we _ _ _ _ hf.F).2 k hc;rcases cY k v (Im.noM_m e).1 with e|e
        .rw[g3] at e;cases e
        .have:=((we _ _ _ _ hf.F).1 k g1).1;omega⟩)
  have hFB:Free L (σa.plus σx.noM) zO:=by
   refine⟨FH.own,λo=>?_,?_⟩
   .cases e:(σa.plus σx.noM).c L o with
    |none=>rfl
    |some v=>
     rcases Im.plus_c e with e|e
     .rw[FH.c] at e;cases e
     .exact absurd LN (jG L o v e)
   .cases e:(σa.plus σx.noM).m L with
    |none=>rfl
    |some v=>
     rcases Im.plus_m e with e|e
     .rw[FH.m] at e;cases e
     .exact absurd LN (mu L v (Im.noM_m e).1)
  have uy:ps.toList.length=ys.length:=by rw[D6];exact hl.symm
  have aqU:qo C (σa.plus σx.noM) ys args ds':=⟨ei.1,ei.2.1,λj t e=>((ei.2.2 j t e).noM).mono (Im.plus_le2 iA.ok hτok)⟩
  have iC:=iB.startR (O':=ρ1) uy bC (λp hp=>by
   have:=bR.1 ak p hp;rw[FJ,hn];simpa [jB] using this) aqU rfl
  have Sv:∃xi,q2.pc.ev Z N (ρ1.put ps.toList (partsOf ps.toList (.tup ds')) lo (nK i'))=some xi/\((i'<m/\∃O',xi=.next O'/\lo.map O'.o=nK (i'+1))\/(i'=m/\m<xs.length/\∃id O',xi=.exit id O')):=by
   by_cases lS:i'<m
   .obtain⟨y,O',g1,g2,g3⟩:=L9 i' lS;rw[eA] at g1;cases g1;exact⟨_,g2,.inl ⟨lS,O',rfl,g3⟩⟩
   .obtain rfl:i'=m:=by omega
    rcases jJ with⟨g1,_⟩|⟨g1,y,id,O',g2,g3,_⟩
    .omega
    .rw[eA] at g2;cases g2;exact⟨_,g3,.inr ⟨rfl,g1,id,O',rfl⟩⟩
  obtain⟨xi,uD,S6⟩:=Sv;have ab:q2.pc=.seq ra.pc rb.pc:=by rw[<-j4];rfl
  rw[ab] at uD;have aF:(nE ps.toList args aM.tmps).size=n:=by rw[ai7,FJ,hn]
  refine⟨λ_ _=>trivial,?_⟩;rw[Oper.semAt_eq _ _ _ (λc e=>by rw[bQ] at e;cases e)];have aqV:aa.size=ps.size:=by
   have:=ei.1;rw[<-acj,fw,D6] at this;omega
  have ar:=aCY (C:=C) bQ cC Lz (by rw[dS];exact aqV);have asI:(rec .ready none).fn=Rf/\(rec .ready none).tmps=a.tmps/\(rec .ready none).params=ps/\(rec .ready none).assign=ca/\(rec .ready none).body=cb:=by rw[dS];exact⟨rfl,rfl,rfl,rfl,rfl⟩
  obtain⟨r1,r2,r3,r4,r5⟩:=asI;rw[r1,r2,r3,r4,r5] at ar
  have rj:(ps.zip (aa.map a'.eval)).foldl (λtmps (t,v)=>tmps.setIfInBounds t v) a.tmps=nE ps.toList args aM.tmps:=by
   rw[FJ,<-acj,<-xT];exact ayU ps (aa.map a'.eval) a.tmps
  rw[rj] at ar;rw[ar];refine⟨(λe=>by cases e),?_⟩;refine roundIn_of_wpIn (F:=FR rd') trivial ?_;show ca.wpIn (FR (some L)) 0 C.P _ _ _;cases lX:ra.pc.ev Z N (ρ1.put ps.toList (partsOf ps.toList (.tup ds')) lo (nK i')) with
  |none=>simp only[PC.ev,lX] at uD;cases uD
  |some xa=>
  refine wpIn_mono (ai1 bO SB la hRC iC (wr:=λt=>t∈cP ca) (λ_ h=>h) aF lX L) λe2 a1 ZL asU=>?_;obtain⟨ρ2,S2,σ2,jP,jh,iD,j5,jN,kX⟩:=asU;cases e2 with
  |normal=>
   obtain⟨rfl,wg⟩:=kX;rw[hao] at wg;cases wg;simp only[PC.ev,lX] at uD;have hL2:ZL.heap[L]?=some (.loop (rec .ready none)):=(j5.same L acd hFB.own).trans Lz;have Rp:=hFB.seg acd j5;have Rq:L<ZL.heap.size:=(hZ.1 hL2).1;have hL0:w0.heap.size<=L:=by omega
   refine⟨_,run_beginRound hL2 (by rw[dS]),?_⟩;have iE:=iD.putL hL0 Rp (λt' f c hf FY=>((we _ _ _ _ hf.F).1 L FY).2 rfl) (.loop {rec .ready none with state:=.busy});have hL3:(ZL.putObj L (.loop {rec .ready none with state:=.busy})).heap[L]?=some (.loop {rec .ready none with state:=.busy}):=World.putObj_heap_same Rq;show cb.wpIn (FR (some L)) 0 C.P _ _ _;refine wpIn_mono (ai1 eY hrb la hRC iE (wr:=λt=>t∈cP cb) (λ_ h=>h) (jN.size.trans aF) uD L) λe3 a3 w3 asV=>?_;obtain⟨ρ3,S3,σ3,zN,Gy,iF,pI,asS,pD⟩:=asV;have hL4:w3.heap[L]?=some (.loop {rec .ready none with state:=.busy}):=(pI.same L (by simpa using Rq) Rp.own).trans hL3;have hF3:=Rp.seg (by simpa using Rq) pI;have aqF:L<w3.heap.size:=(hZ.1 hL4).1;obtain⟨mk,wC⟩:∃mk,Nat.lor (zA (ps.toList++cP ca++cP cb)) (Nat.lor ra.mr rb.mr)=mk:=⟨_,rfl⟩
   have ar8:∀t,aA mk t=false->t∉ps.toList/\t∉cP ca/\t∉cP cb/\aA ra.mr t=false/\aA rb.mr t=false:=by
        intro t ht;rw[<-wC,gd,gd,ZW,ZW] at ht;obtain⟨t1,t2,t3⟩:=ht;have:t∉ps.toList++cP ca++cP cb:=λhm=>by rw[aaI hm] at t1;cases t1
        simp only[dH,not_or] at this;exact⟨this.1.1,this.1.2,this.2,t2,t3⟩
   have SC:∀t,aA mk t=false->aM.tmps.getD t undef=a3.tmps.getD t undef/\(ρ1.put [] [] lo (lo.map ρ3.o)).r t=ρ3.r t:=by
        intro t ht;obtain⟨t1,t2,t3,t4,t5⟩:=ar8 t ht;refine⟨?_,?_⟩
        .rw[asS.get t t3,jN.get t t2];exact(Ow _ _ _ _ t1).symm
        .have Ce:∀O',xi=.next O'\/(∃id,xi=.exit id O')->O'.r t=ρ2.r t:=λO' h=>by
          have yQ:xi.env?=some O':=by rcases h with h|⟨id,h⟩<;>rw[h]<;>rfl
          exact(PC.ev_but rb.pc _ _ O' uD yQ).r t λhm=>by rw[hmb.1 t hm] at t5;cases t5
         have cB:ρ2.r t=putL ρ1.r ps.toList (partsOf ps.toList (.tup ds')) t:=(PC.ev_but ra.pc _ _ ρ2 lX rfl).r t λhm=>by rw[hma.1 t hm] at t4;cases t4
         rw[Dg _ _ _ _ t1] at cB;show ρ1.r t=ρ3.r t;rw[Ce ρ3 (by
          cases e3 with
          |normal=>exact .inl pD.1
          |exit id=>exact .inr ⟨id,pD.1⟩
          |ret=>exact .inr ⟨_,pD.1⟩
          |_=>exact pD.elim),cB]
   have R7:q2.mo=kj ra.mo rb.mo:=by rw[<-j4];rfl
   have Sk:∀j,j∉q2.mo->ρ3.o j=ρ1.o j:=by
        intro j hj;rw[R7,rq,not_or] at hj;have yQ:xi.env?=some ρ3:=by
         cases e3 with
         |normal=>rw[pD.1];rfl
         |exit id=>rw[pD.1];rfl
         |ret=>rw[pD.1];rfl
         |_=>exact pD.elim
        rw[(PC.ev_but rb.pc _ _ ρ3 uD yQ).o j λhm=>hj.2 (hmb.2 j hm),(PC.ev_but ra.pc _ _ ρ2 lX rfl).o j λhm=>hj.1 (hma.2 j hm)]
        exact Dg _ _ _ _ λhm=>by
         rw[<-yX] at hm;have:=(eO.1 hm).1;rw[R7,rq] at this;exact this.elim hj.1 hj.2
   have Sj:∀(S:Snap),S∈(q1::q2.ex.map (·.2))->∀j,pK ((S.st ids).o j)=false->(ρ1.put [] [] lo (lo.map ρ3.o)).o j=ρ3.o j:=by
        intro S hS j hj;show putL ρ1.o lo (lo.map ρ3.o) j=ρ3.o j;rw[uT];split
        .rfl
        .rename_i gT;refine(Sk j λwy=>gT ?_).symm;rw[<-yX];exact eO.2 ⟨wy,xY.2 ⟨S,hS,by simpa [Snap.st] using hj⟩⟩
   have fin:∀(jump:Option Code) (Sx:Snap),Inv C (Sx.st ids) (ρ1.put [] [] lo (lo.map ρ3.o)) σ3 zN Gy w0 σR (λ_=>False) aM w3->P (i'+1) (lo.map ρ3.o) Sx (if jump.isNone then .ready else .done) jump->jump.isNone=decide (i'<m)->
        ∃v w',(Instr.endRound L jump).run C.P w3=.ok v w'/\K (a'.put o.dst v) w':=by
        intro jump Sx iG hPn wy;refine⟨_,_,run_endRound jump hL4,?_⟩;have asH:({{rec .ready none with state:=.busy} with state:=if jump.isNone then .ready else .done,pending:=jump}:Loop)=rec (if jump.isNone then .ready else .done) jump:=by rw[dS]
        rw[asH];have aS:=j5.round (L:=L) (o':=.loop (rec (if jump.isNone then .ready else .done) jump)) pI;have iH:=iG.putL hL0 hF3 (λt' f c hf FY=>((we _ _ _ _ hf.F).1 L FY).2 rfl) (.loop (rec (if jump.isNone then .ready else .done) jump));obtain⟨w4,SW⟩:∃w4,w3.putObj L (.loop (rec (if jump.isNone then .ready else .done) jump))=w4:=⟨_,rfl⟩
        have hL5:w4.heap[L]?=some (.loop (rec (if jump.isNone then .ready else .done) jump)):=by rw[<-SW];exact World.putObj_heap_same aqF
        have aHu:w4.heap.size=w3.heap.size:=by rw[<-SW];simp
        rw[SW] at aS iH ⊢;have aG0:W1.heap.size<=w1.heap.size:=by
         have:=hF.lt (W1.heap.size-1) (hF.old _ (by omega));omega
        have aHp:=aS.below.size
        refine hK _ _ ⟨by rw[wy],aS.below,λk hk hc=>aS.same k hk (by
         cases e:zO k with
         |none=>rfl
         |some j=>exact absurd ((Cj k).2 (.inl ⟨j,e⟩)) hc) (λe=>hc (by rw[e];exact LN)),(λk=>k<w4.heap.size/\(k<W1.heap.size\/(∃j,zN k=some j)\/(∃o x,σ3.c k o=some x)\/∃x,σ3.m k=some x)),(λk=>(∃j,zN k=some j)\/k=L),?_,?_,?_⟩
        .refine⟨λk hk=>hk.1,λk hk=>?_,λk hk=>⟨by omega,.inl hk⟩,i'+1,lo.map ρ3.o,Sx,_,jump,σ3,zN,Gy,rfl,hPn,iH,L4.trans ((Im.plus_le1 _ _).trans aS.le),hF3,hL5,λk j e=>⟨(iH.owns k j e).2.1,.inr (.inl ⟨j,e⟩)⟩,λk o x e=>⟨iH.lt e,.inr (.inr (.inl ⟨o,x,e⟩))⟩,λk x e=>⟨iH.ltm e,.inr (.inr (.inr ⟨x,e⟩))⟩,λk=>.rfl⟩;rcases hk with⟨j,e⟩|e
         .exact⟨(iH.owns k j e).2.1,.inr (.inl ⟨j,e⟩)⟩
         .exact⟨by omega,.inl (by omega)⟩
        .rintro k ⟨_,hk⟩ bN
         have F2:((∃o x,σ3.c k o=some x)\/∃x,σ3.m k=some x)->fx k\/(∃o x,σx.c k o=some x)\/(∃x,σx.m k=some x/\x≠cW):=λh=>by
          rcases aS.imm k h with⟨o,x,e⟩|⟨x,e⟩|⟨j,e⟩|e
          .rcases Im.plus_c e with e|e
           .exact .inl (hcA k o x e)
           .exact .inr (.inl ⟨o,x,e⟩)
          .rcases Im.plus_m e with e|e
           .exact .inl (F8 k x e)
           .exact .inr (.inr ⟨x,(Im.noM_m e).1,(Im.noM_m e).2⟩)
          .exact .inl (Si k j e)
          .omega
         rcases hk with hk|⟨j,e⟩|e|e
         .exact .inl (hF.old k hk)
         .rcases aS.ow k j e with⟨j',e⟩|e
          .exact .inl (Si k j' e)
          .omega
         .exact F2 (.inl e)
         .exact F2 (.inr e)
        .rintro k (⟨j,e⟩|e) bN
         .rcases aS.ow k j e with⟨j',e⟩|e
          .exact(Cj k).2 (.inl ⟨j',e⟩)
          .omega
         .rw[e];exact LN
   have py:lC σ3 w0.heap.size aM.defers:=iA.defers.mono ((Im.plus_le1 _ _).trans (j5.le.trans pI.le));have Sw:q2.out=rb.out.map (Snap.mask mk)/\q2.ex=rb.ex.map (λx=>(x.1,x.2.mask mk)):=by rw[<-j4,<-wC];exact⟨rfl,rfl⟩
   cases e3 with
   |normal=>
    obtain⟨e4,e5⟩:=pD;have hT:q2.out=some (S3.mask mk):=by rw[Sw.1,e5];rfl
    have acF:=Cl _ hT
    have iG:Inv C (q1.st ids) ρ3 σ3 zN Gy w0 σR (λ_=>False) a3 w3:=by
        have:=Snap.meet_ok2 (x:=q1) (iF.maskR mk)
        rwa [acF] at this
    have iH:=iG.restore (O':=ρ1.put [] [] lo (lo.map ρ3.o)) (a':=aM) (Snap.noOpt _ _) py (λt ht=>SC t (by
        cases e:aA mk t with
        |false=>rfl
        |true=>
         have h9:=avD (x:=q1) (S:=S3) (ids:=ids) e;rw[acF] at h9;rw[h9] at ht;cases ht)) (λj hj=>Sj q1 (dZ ..) j hj)
    rcases S6 with⟨lS,O',e6,e7⟩|⟨_,_,id,O',e6⟩
    .rw[e4] at e6;cases e6;exact fin none q1 iH (by rw[hP];exact .inl ⟨by omega,e7,rfl,rfl,rfl⟩) (by simp[lS])
    .rw[e4] at e6;cases e6
   |exit id=>
    obtain⟨e4,e5,e6⟩:=pD;have cR:(id,S3.mask mk)∈q2.ex:=by rw[Sw.2];exact dW.2 ⟨_,e6,rfl⟩
    have iH:=(iF.maskR mk).restore (O':=ρ1.put [] [] lo (lo.map ρ3.o)) (a':=aM) (Snap.noOpt _ _) py (λt ht=>SC t (by
        cases e:aA mk t with
        |false=>rfl
        |true=>rw[GS,if_pos e] at ht;cases ht)) (λj hj=>Sj (S3.mask mk) (dV _ (dW.2 ⟨_,cR,rfl⟩)) j hj)
    rcases S6 with⟨lS,O',e7,_⟩|⟨lS,od,cj,O',e7⟩
    .rw[e4] at e7;cases e7
    .subst lS;refine fin (some (.exit id)) (S3.mask mk) iH ?_ (by simp);rw[hP];refine .inr ⟨rfl,od,rfl,_,id,ρ3,eA,?_,rfl,cR,.inl ⟨e5,rfl⟩⟩;rw[ab];simp only[PC.ev,lX];rw[uD,e4]
   |ret=>
    obtain⟨e4,e6⟩:=pD;have cR:(di,S3.mask mk)∈q2.ex:=by rw[Sw.2];exact dW.2 ⟨_,e6,rfl⟩
    have iH:=(iF.maskR mk).restore (O':=ρ1.put [] [] lo (lo.map ρ3.o)) (a':=aM) (Snap.noOpt _ _) py (λt ht=>SC t (by
        cases e:aA mk t with
        |false=>rfl
        |true=>rw[GS,if_pos e] at ht;cases ht)) (λj hj=>Sj (S3.mask mk) (dV _ (dW.2 ⟨_,cR,rfl⟩)) j hj)
    rcases S6 with⟨lS,O',e7,_⟩|⟨lS,od,cj,O',e7⟩
    .rw[e4] at e7;cases e7
    .subst lS;refine fin (some .ret) (S3.mask mk) iH ?_ (by simp);rw[hP];refine .inr ⟨rfl,od,rfl,_,di,ρ3,eA,?_,rfl,cR,.inr ⟨rfl,rfl⟩⟩;rw[ab];simp only[PC.ev,lX];rw[uD,e4]
   |_=>exact pD.elim
  |exit id=>obtain⟨_,_,e6⟩:=kX;rw[hax] at e6;cases e6
  |ret=>obtain⟨_,e6⟩:=kX;rw[hax] at e6;cases e6
  |_=>exact kX.elim
 .rintro e' w' ⟨⟨v,rfl⟩,fx,cx,hF⟩;rw[show({tmps:=a.tmps,defers:=[{target:=Target.collected w.heap.size,args:=#[]}]++a.defers}:Act)=aM from Rs];obtain⟨i',vo,Sx,st,pe,σa,zO,hva,e1,e2,iA,L4,FH,Lz,Si,hcA,F8,Cj⟩:=hF.ex;have h9:=congrArg List.length (congrArg D.l e1);simp only[D.l_list,eN] at h9;have df:(rec st pe).state≠.busy:=by
   rw[hP] at e2;rw[dS];rcases e2 with⟨_,_,_,e3,_⟩|⟨_,_,e3,_⟩<;>(rw[e3];intro e;cases e)
  have wF:(rec st pe).pending=pe:=by rw[dS]
  have RP:(Instr.endLoop L).run C.P w'=.ok pe (w'.putObj L (.loop {rec st pe with state:=.exhausted})):=(run_endLoop (P:=C.P) Lz df).trans (congrArg (λz=>Result.ok z _) wF);have iF:=iA.putL (by omega:w0.heap.size<=L) FH (λt' f c hf FY=>((we _ _ _ _ hf.F).1 L FY).2 rfl) (.loop {rec st pe with state:=.exhausted});rw[<-hσR] at iF;have iG:=i1.ofRnd RR (λk hk e=>by have:=arv k hk;omega) iF;have kZ:SameBut wr a aM:=⟨by rw[FJ],λt _=>by rw[FJ]⟩
  refine⟨pe,_,RP,?_⟩;rw[hP] at e2;rcases e2 with⟨e3,rfl,FI,_,rfl⟩|⟨rfl,od,_,y,id,O',g1,g2,rfl,g4,g5⟩
  .rcases jJ with⟨g1,g2⟩|⟨g1,_⟩
   .obtain rfl:i'=m:=by omega
    rw[FI] at iG;exact⟨_,q1,g2,rfl,kZ,_,_,_,iG⟩
   .omega
  .rcases jJ with⟨g6,_⟩|⟨_,y',cj,O'',k1,k2,k3⟩
   .omega
   .rw[g1] at k1;cases k1;rw[g2] at k2;cases k2;rcases k3 with⟨k3,k4⟩|⟨k3,pe',k4,k5⟩
    .rcases g5 with⟨_,rfl⟩|⟨g5,_⟩
     .exact wpIn_exit ⟨_,Sx,k4,k3,eO.2 ⟨g4,by simp[ff k3]⟩,kZ,_,_,_,iG⟩
     .exact absurd g5 k3
    .rcases g5 with⟨g5,_⟩|⟨_,rfl⟩
     .exact absurd k3 g5
     .subst k3;rw[<-wK,ay] at k4;obtain⟨M,hM,Gp⟩:=k4;obtain⟨M',hM',ur⟩:=Tw (⟨_,_,_,iG⟩:Good C w0 σ0 (Sx.st ids) _ (λ_=>False) aM _) q2.ex none g4;rw[hM] at hM';cases hM';obtain⟨σm,aIk,hvm,im⟩:=ur;exact wpIn_ret ⟨_,k5,Inv.retD hC (λ_=>rfl) nX Gp _ im rfl,kZ⟩
def aex {arr:Array MapEntry}{clock:Nat}(hb:nN arr clock){idx:List Nat}(hi:∀i,i∈idx->i<arr.size){i:Nat}{e:MapEntry}(he:arr[i]?=some e):(gY arr idx).contains e.born=true↔i∈idx:=by
 simp only[gY,List.contains_toArray,List.contains_iff_mem,dW];constructor
 .rintro⟨j,hj,h⟩;have ak:=hi j hj;rw[gw ak] at h;simp only at h;have:=hb.2 j i arr[j] e (gw ak) he h;rw[<-this];exact hj
 .intro h;exact⟨i,h,by rw[he]⟩
def ayL (arr:Array MapEntry)(idx:List Nat){i:Nat}{e:MapEntry}(he:arr[i]?=some e):(gY arr idx).push e.born=gY arr (idx++[i]):=by
 simp[gY,he]
def avZ {P:Program}{w:World}{k m:Nat}{arr:Array MapEntry}{clock:Nat}{idx:List Nat}(hk:w.heap[k]?=some (.mapIter (some m) clock (gY arr idx) clock))(hm:w.heap[m]?=some (.map arr clock))(hb:nN arr clock)(hi:∀i,i∈idx->i<arr.size)(T:TypeId):
 ∃w1:World,(w1=w\/w1=w.drew)/\(((∀i,i<arr.size->i∈idx)/\(Instr.next (.pointer (some ⟨k,0,none⟩)) false T).run P w=.ok (.tuple #[.bool false]) w1)\/
  ∃i e,arr[i]?=some e/\i∉idx/\(Instr.next (.pointer (some ⟨k,0,none⟩)) false T).run P w=.ok (.tuple #[.bool true,e.key,e.val]) {w1 with heap:=w1.heap.setIfInBounds k (.mapIter (some m) clock (gY arr (idx++[i])) clock)}):=by
 have cR:∀{e:MapEntry},e∈arr->∃i:Nat,arr[i]?=some e:=λhe=>by
  obtain⟨i,hi,rfl⟩:=Array.mem_iff_getElem.1 he;exact⟨i,gw hi⟩
 have hold:∀(l:Array MapEntry),(∀e,e∈l->e.born<clock)->l.filter (λx=>decide (x.born<clock))=l:=λl h=>by
  rw[Array.filter_eq_self];intro e he;simpa using h e he
 have mB:∀(l:Array MapEntry),(∀e,e∈l->e.born<clock)->l.filter (λx=>decide (x.born>=clock))=#[]:=λl h=>by
  rw[Array.filter_eq_empty_iff];intro e he;have:=h e he;simp;omega
 have hbc:∀e,e∈arr->e.born<clock:=λe he=>by obtain⟨i,hi⟩:=cR he;exact hb.1 i e hi
 have gR:(!(gY arr idx).isEmpty&& !arr.isEmpty&&arr.all (λx=>decide (x.born>=clock)))=false:=by
  cases ha:arr.isEmpty
  .have aB:arr.size≠0:=by simpa using ha
   have:arr.all (λx=>decide (x.born>=clock))=false:=by
        rw[Bool.eq_false_iff];intro h;rw[Array.all_eq_true] at h;have h0:=h 0 (by omega);have h1:=hbc arr[0] (ZU _);simp at h0;omega
   rw[this,AD]
  .simp
 let left:=arr.filter λe=> !(gY arr idx).contains e.born
 have hl:∀e,e∈left->e.born<clock:=λe he=>hbc e (ZV.1 he).1;by_cases hz:left.size=0
 .refine⟨w,.inl rfl,.inl ⟨λi ak=>?_,?_⟩⟩
  .by_cases bG:i∈idx
   .exact bG
   .exfalso;have L6:arr[i]∈left:=ZV.2 ⟨ZU _,by
     have:=aex hb hi (gw ak);cases hc:(gY arr idx).contains arr[i].born with
     |false=>rfl
     |true=>exact absurd (this.1 hc) bG⟩
    have:left=#[]:=O9 hz;rw[this] at L6;simp at L6
  .have he:left=#[]:=O9 hz;have qZ:arr.filter (λe=> !(gY arr idx).contains e.born)=#[]:=he;simp only[Instr.next,getObj,Sem.run_bind,Sem.run,hk,hm,Result.andThen_ok,gR,qZ];simp[Question.forced,Sem.run]
 .have kr:left.filter (λx=>decide (x.born<clock))=left:=hold left hl;have lQ:left.filter (λx=>decide (x.born>=clock))=#[]:=mB left hl;have hem:left.isEmpty=false:=by simpa using hz
  have key:∀c,c<left.size->∃i e,arr[i]?=some e/\i∉idx/\left[c]?=some e:=λc hc=>by
   have L6:left[c]∈left:=ZU _;obtain⟨h1,h2⟩:=ZV.1 L6;obtain⟨i,dG⟩:=cR h1;refine⟨i,left[c],dG,λbG=>?_,gw hc⟩;rw[(aex hb hi dG).2 bG] at h2;cases h2
  obtain⟨w1,c,jj,hc,lO⟩:∃w1 c,(w1=w\/w1=w.drew)/\c<left.size/\(choose (.mapNext left.size)).run P w=.ok c w1:=by
   by_cases h1:left.size<=1
   .exact⟨w,0,.inl rfl,by omega,by simp[Question.forced,h1]⟩
   .exact⟨w.drew,_,.inr rfl,Nat.mod_lt _ (by omega),by simp[Question.forced,h1,Question.cut];rfl⟩
  obtain⟨i,e,h1,h2,h3⟩:=key c hc;refine⟨w1,jj,.inr ⟨i,e,h1,h2,?_⟩⟩;have ux:arr.filter (λe=> !(gY arr idx).contains e.born)=left:=rfl;have nZ:(getObj k).run P w=.ok (.mapIter (some m) clock (gY arr idx) clock) w:=by simp[getObj,Sem.run,hk]
  have iQ:(getObj m).run P w=.ok (.map arr clock) w:=by simp[getObj,Sem.run,hm]
  have bN:w1.heap[k]?=some (.mapIter (some m) clock (gY arr idx) clock):=by rcases jj with rfl|rfl<;>exact hk
  have hg3:(setObj k (.mapIter (some m) clock ((gY arr idx).push e.born) clock)).run P w1=.ok () {w1 with heap:=w1.heap.setIfInBounds k (.mapIter (some m) clock ((gY arr idx).push e.born) clock)}:=by simp[setObj,Sem.run,bN]
  have aq0:((if false=true then #[none] else #[])++Array.map some (left++#[]):Array (Option MapEntry))=left.map some:=by simp
  have jG:(left.map some)[c]?=some (some e):=by simp[h3]
  have acI:∀(EF:Array (Option MapEntry)) (cc:Nat),(choose (.mapNext EF.size)).run P w=.ok cc w1->EF[cc]?=some (some e)->(do
        match EF[<-choose (.mapNext EF.size)]? with
        |some (some e)=>
         setObj k (.mapIter (some m) clock ((gY arr idx).push e.born) clock)
         pure (.tuple #[.bool true,e.key,e.val])
        |some none=>(pure (.tuple #[.bool false]):Sem Value)
        |none=>stuck "Next: no such candidate" :Sem Value).run P w=.ok (.tuple #[.bool true,e.key,e.val]) {w1 with heap:=w1.heap.setIfInBounds k (.mapIter (some m) clock ((gY arr idx).push e.born) clock)}:=by
   intro EF cc h4 h5;rw[Sem.run_bind,h4];simp only[Result.andThen_ok,h5];rw[Sem.run_bind,hg3];rfl
  rw[ayL arr idx h1] at acI hg3;have:=acI (left.map some) c (by rw[Array.size_map];exact lO) jG;simp only[Instr.next];rw[Sem.run_bind,nZ];simp only[Result.andThen_ok];rw[Sem.run_bind,iQ];simp only[Result.andThen_ok,gR,ux,kr,lQ,hem];rw[aq0,if_neg (by decide)];exact this
def aoG {P:Program}{w:World}{k m:Nat}{arr:Array MapEntry}{clock:Nat}{idx:List Nat}{i:Nat}{e:MapEntry}(hk:w.heap[k]?=some (.mapIter (some m) clock (gY arr (idx++[i])) clock))(hm:w.heap[m]?=some (.map arr clock))(hb:nN arr clock)(he:arr[i]?=some e):
 (Instr.entry (.pointer (some ⟨k,0,none⟩))).run P w=.ok (.tuple #[e.key,e.val]) w:=by
 have aqW:(gY arr (idx++[i])).back?=some e.born:=by simp[gY,he]
 have FZ:arr.find? (λx=>x.born==e.born)=some e:=by
  have ak:i<arr.size:=(hZ.1 he).1;have hei:arr[i]=e:=(hZ.1 he).2;rw[Array.find?_eq_some_iff_getElem];refine⟨by simp,i,ak,hei,λj hj=>?_⟩;have gT:j<arr.size:=by omega
  cases hc:(arr[j].born==e.born) with
  |false=>rfl
  |true=>
   have:=hb.2 j i arr[j] e (gw gT) he (by simpa using hc);omega
 simp[Instr.entry,getObj,Sem.run_bind,Sem.run,hk,hm,aqW,FZ]
def avx {x y z:Code}{k:Nat}{p:MP}(h:CN x y k z=some p):∃i1 i2 o1 o2 o3 l,x=.region i1 p.ops1 false/\y=.cond (.tmp p.mo) .skip (.exit p.out)/\z=.region i2 p.ops2 false/\p.next=k/\p.ops1.toList=[o1,o2]/\p.ops2.toList=o3::l/\
 o1.dst=some p.nx/\o1.guard=none/\o1.op=.next (.tmp p.it) false/\o2.dst=some p.mo/\o2.guard=none/\o2.op=.extract (.tmp p.nx) 0/\o3.dst=some p.pr/\o3.guard=none/\o3.op=.entry (.tmp p.it)/\l8 p.pr l []=some p.aa/\
 p.it≠p.nx/\p.it≠p.mo/\p.it≠p.pr/\p.nx≠p.mo/\p.out≠di/\k≠di:=by
 unfold CN at h;split at h
 case h_2=>cases h
 rename_i i1 ops1 mo out i2 ops2;split at h
 case h_2=>cases h
 rename_i o1 o2 o3 l e1 e2;split at h
 case h_2=>cases h
 rename_i nx it mo' nx' pr it' d1 g1 q1 d2 g2 q2 d3 g3 q3;rw[qp] at h;split at h
 case isFalse=>cases h
 rename_i hc;simp only[aD] at h;obtain⟨aa,h4,rfl⟩:=h;simp only[au,iZ] at hc;obtain⟨⟨⟨⟨⟨⟨⟨⟨c1,c2⟩,c3⟩,c4⟩,c5⟩,c6⟩,c7⟩,c8⟩,c9⟩:=hc;have ne:∀{a b:Nat},Nat.beq a b=false->a≠b:=λh e=>by subst e;simp at h
 obtain rfl:=aC c1;obtain rfl:=aC c2;obtain rfl:=aC c3;exact⟨i1,i2,o1,o2,o3,l,rfl,rfl,rfl,rfl,e1,e2,d1,g1,q1,d2,g2,q2,d3,g3,q3,h4,ne c4,ne c5,ne c6,ne c7,ne c8,ne c9⟩
def Nb {pr:Nat}:∀(l:List Oper) {acc aa:List (Nat×Nat)},l8 pr l acc=some aa->∀x,x∈acc->x∈aa
 |[],acc,aa,h,x,hx=>by simp only[l8,aX] at h;subst h;exact hx
 |o::l,acc,aa,h,x,hx=>by
  simp only[l8] at h;split at h
  case h_2=>cases h
  rw[qp] at h;split at h
  .cases h
  split at h
  .rw[qp] at h;split at h
   .exact Nb l h x (ja _ hx)
   .cases h
  .simp only[ay] at h;obtain⟨i,_,h⟩:=h;exact Nb l h x (ja _ hx)
  .simp only[ay] at h;obtain⟨i,_,h⟩:=h;exact Nb l h x (ja _ hx)
  .cases h
def GQ:∀{l:List (Nat×Nat)} {t i:Nat},w8 l t=some i->(t,i)∈l
 |x::l,t,i,h=>by
  simp only[w8] at h;cases hb:Nat.beq x.1 t<;>simp only[hb,zyy,zyx] at h
  .exact dV _ (GQ h)
  .cases h;have:=aC hb;subst this;exact dZ ..
def aeo:∀{l:List (Nat×Nat)} {t:Nat},(w8 l t).isSome=false->∀x,x∈l->x.1≠t
 |y::l,t,h,x,hx=>by
  simp only[w8] at h;cases hb:Nat.beq y.1 t<;>simp only[hb,zyy,zyx] at h
  .rcases cU.1 hx with e|hx
   .subst e;intro e;subst e;simp at hb
   .exact aeo h x hx
  .cases h
def Uw {pr:Nat}:∀(l:List Oper) {acc aa:List (Nat×Nat)},l8 pr l acc=some aa->(∀x,x∈acc->x.2<=1)->∀x,x∈aa->x∈acc\/(x.2<=1/\∃o,o∈l/\o.dst=some x.1)
 |[],acc,aa,h,_,x,hx=>by simp only[l8,aX] at h;subst h;exact .inl hx
 |o::l,acc,aa,h,ha,x,hx=>by
  simp only[l8] at h;split at h
  case h_2=>cases h
  rename_i d hd kW;rw[qp] at h;split at h
  .cases h
  have go:∀(pt:Nat),pt<=1->l8 pr l (acc++[(d,pt)])=some aa->x∈acc\/(x.2<=1/\∃o',o'∈o::l/\o'.dst=some x.1):=by
   intro pt wG hp
   rcases Uw l hp (λy hy=>by
        rcases dH.1 hy with h|h
        .exact ha y h
        .simp at h;subst h;exact wG) x hx with h|⟨h1,o',h2,h3⟩
   .rcases dH.1 h with h|h
    .exact .inl h
    .simp at h;subst h;exact .inr ⟨wG,o,dZ ..,hd⟩
   .exact .inr ⟨h1,o',dV _ h2,h3⟩
  split at h
  .rw[qp] at h;split at h
   case isFalse=>cases h
   rename_i jG;simp only[au] at jG;exact go _ (kp jG.2) h
  .simp only[ay] at h;obtain⟨i,hi,h⟩:=h;exact go i (ha _ (GQ hi)) h
  .simp only[ay] at h;obtain⟨i,hi,h⟩:=h;exact go i (ha _ (GQ hi)) h
  .cases h
def Da {P:Program}{ops:Array Oper}{i:Nat}{rest:List Nat}{o:Oper}{rd:Option Nat}{a:Act}{w w':World}{Q:Exit->Act->World->Prop}{v:Value}(ho:ops[i]?=some o)(hg:o.guard=none)(bC:pR o.op=true)(hx:(execOp a.eval o).run P w=.ok (.value v) w')
 (k:wpOpsIn (FR rd) 0 P ops Q rest (a.put o.dst v) w'):wpOpsIn (FR rd) 0 P ops Q (i::rest) a w:=by
 simp only[wpOpsIn,ho];rw[if_pos (by simp[Region.wanted,hg])];exact ag0 bC (by unfold Oper.wp;rw[hx];exact k)
def ayG {ops:Array Oper}{o:Oper}(ho:o∈ops.toList)(a:Act)(v:Value):SameBut (sm ops) a (a.put o.dst v):=by
 have:=SameBut.put a o.dst v a.defers;exact this.mono λt e=>⟨o,ho,e⟩
def Dh {a:Act}{d:Nat}{v:Value}(h:d<a.tmps.size):(a.put (some d) v).tmps.getD d undef=v:=by rw[Au];simp[h]
def Nn {a:Act}{d t:Nat}{v:Value}(h:t≠d):(a.put (some d) v).tmps.getD t undef=a.tmps.getD t undef:=by rw[Au];simp[h]
def put_defers (a:Act)(d:Option Nat)(v:Value):(a.put d v).defers=a.defers:=by cases d<;>rfl
def G5 (kv vv:Value)(i:Nat):Value:=if i=0 then kv else vv
def ag9 {P:Program}{ops:Array Oper}{rd:Option Nat}{Q:Exit->Act->World->Prop}{pr:Nat}{kv vv:Value}{w:World}:∀(l:List Oper) (acc aa:List (Nat×Nat)) (i:Nat) (a:Act),l8 pr l acc=some aa->ops.toList.drop i=l->(∀x,x∈aa->x.1<a.tmps.size)->a.tmps.getD pr undef=.tuple #[kv,vv]->
 (∀x,x∈acc->a.tmps.getD x.1 undef=G5 kv vv x.2)->(∀a',SameBut (sm ops) a a'->a'.defers=a.defers->(∀x,x∈aa->a'.tmps.getD x.1 undef=G5 kv vv x.2)->Q .normal a' w)->wpOpsIn (FR rd) 0 P ops Q (List.range' i (ops.size-i)) a w
 |[],acc,aa,i,a,h,hl,ak,rh,FK,hQ=>by
  simp only[l8,aX] at h;subst h;have:ops.size-i=0:=by
    have:=Z5.1 hl;simp at this;omega
  rw[this];exact hQ a (.refl _ _) rfl FK
 |o::l,acc,aa,i,a,h,hl,ak,rh,FK,hQ=>by
  have hi:i<ops.toList.length:=by
   refine aai λhle=>?_;rw[Z5.2 hle] at hl;cases hl
  rw[alq hi] at hl;have ho:ops[i]?=some o:=by
   have:ops.toList[i]=o:=by injection hl
   rw[<-this];simp at hi ⊢
  have dL:ops.toList.drop (i+1)=l:=by injection hl
  have aF:ops.size-i=(ops.size-(i+1))+1:=by simp at hi;omega
  rw[aF,Jg];have cR:o∈ops.toList:=by simpa using iY ho
  simp only[l8] at h;split at h
  case h_2=>cases h
  rename_i d hd kW;rw[qp] at h;split at h
  .cases h
  rename_i hc;simp only[fZ,not_or,Bool.not_eq_true] at hc;have hdp:pr≠d:=λe=>by subst e;simp at hc
  have RI:∀x,x∈acc->x.1≠d:=aeo hc.2;have go:∀(pt:Nat) (v:Value),l8 pr l (acc++[(d,pt)])=some aa->pR o.op=true->v=G5 kv vv pt->(execOp a.eval o).run P w=.ok (.value v) w->wpOpsIn (FR rd) 0 P ops Q (i::List.range' (i+1) (ops.size-(i+1))) a w:=by
   intro pt v hp bC hv hx;have RJ:d<a.tmps.size:=ak _ (Nb l hp (d,pt) (by simp));refine Da ho kW bC hx ?_;have kZ:=ayG cR a v;rw[hd] at kZ ⊢;refine ag9 l _ aa (i+1) _ hp dL (λx hx=>by rw[kZ.size];exact ak x hx) (by rw[Nn hdp];exact rh) (λx hx=>?_) (λa' h1 h2 h3=>hQ a' (kZ.trans h1) (h2.trans (put_defers _ _ _)) h3);rcases dH.1 hx with hx|hx
   .rw[Nn (RI x hx)];exact FK x hx
   .simp at hx;subst hx;rw[Dh RJ];exact hv
  split at h
  .rename_i t pt e;rw[qp] at h;split at h
   case isFalse=>cases h
   rename_i jG;simp only[au] at jG;have ht:=aC jG.1;have wG:=kp jG.2;subst ht;have bT:a.eval (.tmp t)=.tuple #[kv,vv]:=by simpa [Act.eval] using rh
   refine go pt (G5 kv vv pt) h (by rw[e];rfl) rfl ?_;rcases(by omega:pt=0\/pt=1) with rfl|rfl<;>simp[execOp,e,bT,Instr.extract,G5]
  .rename_i t e;simp only[ay] at h;obtain⟨pt,ux,h⟩:=h;have:=FK _ (GQ ux);exact go pt (a.eval (.tmp t)) h (by rw[e];rfl) (by simpa [Act.eval] using this) (by simp[execOp,e])
  .rename_i t e;simp only[ay] at h;obtain⟨pt,ux,h⟩:=h;have:=FK _ (GQ ux);exact go pt (a.eval (.tmp t)) h (by rw[e];rfl) (by simpa [Act.eval] using this) (by simp[execOp,e])
  .cases h
def Tg (ids:List Nat)(J j:Nat)(S:Snap):((S.kill ids J).st ids).o j=if j=J then .dead else(S.st ids).o j:=by
 show dT ids (zr ids J S.os) j=_;have:∀(is:List Nat) (os:List Ob),dT is (zr is J os) j=if j=J then .dead else dT is os j:=by
  intro is
  induction is with
  |nil=>intro os;simp[zr,dT]
  |cons i is ih=>
   intro os;cases os with
   |nil=>simp[zr,dT]
   |cons o os=>
    simp only[zr,dT];cases hb:Nat.beq i j
    .simp only[zyx];exact ih os
    .have:=aC hb;subst this;simp only[zyy];by_cases du:i=J
     .subst du;simp
     .simp[ff du,du]
 exact this ids S.os
def aaL {N:Nat}{id:Nat}(LY:id≠di){rm:Bool}{wr:Nat->Prop}{a:Act}{q:Res2}{x xi:Out}(sH:(∀t,t∈q.pc.modR->aA q.mr t=true)/\∀j,j∈q.pc.modO->j∈q.mo)(eA:q.pc.ev Z N O=some xi)(bT:(ir ids id q).pc.ev Z N O=some x){e:Exit}{a':Act}{w':World}
 (gF:iN C w0 σ0 ids fn s rm wr a q.out q.ex xi e a' w'):Exit.inBlock id (iN C w0 σ0 ids fn s rm wr a (ir ids id q).out (ir ids id q).ex x) e a' w':=by
 have acC:∀cj S1,(cj,S1)∈q.ex->cj≠id->(cj,S1)∈q.ex.filter λx=> !Nat.beq x.1 id:=λcj S1 hm aB=>eO.2 ⟨hm,by simp[ff aB]⟩;have main:∀(o:Option Snap) (lr lo:List Nat),pQ id q.ex q.out=o->(∀M,o=some M->lr=ld M q.mr/\lo=j7 ids M q.mo)->(PC.block id lr lo q.pc).ev Z N O=some x->
        Exit.inBlock id (iN C w0 σ0 ids fn s rm wr a o (q.ex.filter λx=> !Nat.beq x.1 id) x) e a' w':=by
  intro o lr lo ho hl bT;simp only[PC.ev] at bT;rw[eA] at bT
  have fin:∀{ρ1:Env} {a':Act} {w':World},(∃M,o=some M/\Good C w0 σ0 (M.st ids) ρ1 (λ_=>False) a' w')->xi.env?=some ρ1->x=.next (O.join lr lo ρ1)->SameBut wr a a'->
   iN C w0 σ0 ids fn s rm wr a o (q.ex.filter λx=> !Nat.beq x.1 id) x .normal a' w':=by
        intro ρ1 a' w' hM yQ hx gl;obtain⟨M,hM,ur⟩:=hM;obtain⟨l1,l2⟩:=hl M hM;subst l1 l2;exact⟨_,M,hx,hM,gl,ur.joined (PC.ev_but q.pc O _ ρ1 eA yQ) sH.1 sH.2⟩
  cases e with
  |normal=>
   obtain⟨ρ1,S2,e1,e2,gl,iQ⟩:=gF;subst e1;simp only[aX] at bT;refine fin ?_ rfl bT.symm gl;rw[e2] at ho;obtain⟨M,h1,h2⟩:=MG (id:=id) q.ex iQ;rw[ho] at h1;exact⟨M,h1,h2⟩
  |exit cj=>
   obtain⟨ρ1,S2,e1,e0,e2,gl,iQ⟩:=gF;subst e1;simp only at bT;show if cj=id then _ else _;by_cases cX:cj=id
   .subst cX;simp only[iL,zyy,aX] at bT;simp only[if_true];refine fin ?_ rfl bT.symm gl;rw[<-ho];exact Tw iQ q.ex q.out e2
   .simp only[ff cX,zyx,aX] at bT;subst bT;simp only[cX,if_false];exact⟨ρ1,S2,rfl,e0,acC _ _ e2 cX,gl,iQ⟩
  |ret=>
   cases rm with
   |false=>
    have hy:=gF;obtain⟨d,e1,_⟩:=hy;subst e1;simp only[aX] at bT;subst bT;exact gF
   |true=>
    obtain⟨ρ1,S2,e1,e2,gl,iQ⟩:=gF;subst e1;simp only[ff (λe=>LY e.symm:di≠id),zyx,aX] at bT;subst bT;exact⟨ρ1,S2,rfl,acC _ _ e2 (λe=>LY e.symm),gl,iQ⟩
  |_=>exact gF.elim
 unfold ir at bT ⊢;cases hm:pQ id q.ex q.out with
 |none=>
  simp only[hm] at bT ⊢;exact main none [] [] hm (λM e=>by cases e) bT
 |some M=>
  simp only[hm] at bT ⊢;exact main (some M) _ _ hm (λM' e=>by cases e;exact⟨rfl,rfl⟩) bT
def aaJ {N id:Nat}{q:Res2}{x:Out}(bT:(ir ids id q).pc.ev Z N O=some x):∃xi,q.pc.ev Z N O=some xi:=by
 unfold ir at bT;cases hm:pQ id q.ex q.out<;>simp only[hm,PC.ev] at bT<;>cases eA:q.pc.ev Z N O<;>first|exact⟨_,rfl⟩|(rw[eA] at bT;cases bT)
def aiY {es:List (D×D)}{idx:List Nat}(hn:idx.Nodup)(ak:∀i,i∈idx->i<es.length)(aS:∀i,i<es.length->i∈idx):(iz es idx).Perm (jr (.map es)):=by
 have h1:idx.Perm (List.range es.length):=by
  rw[List.perm_ext_iff_of_nodup hn Pl];intro i;rw[cw];exact⟨ak i,aS i⟩
 have h2:iz es (List.range es.length)=jr (.map es):=by
  refine Pf (by simp[iz,jr,D.m]) λi g1 g2=>?_;have hi:i<es.length:=by simpa [iz] using g1
  simp[iz,jr,D.m,bI hi]
 rw[<-h2];exact h1.map _
def ayM {es:List (D×D)}{idx:List Nat}(hn:idx.Nodup)(ak:∀i,i∈idx->i<es.length):∃rest,(iz es idx++rest).Perm (jr (.map es)):=by
 refine⟨iz es ((List.range es.length).filter λi=> !idx.contains i),?_⟩;have e:iz es idx++iz es ((List.range es.length).filter λi=> !idx.contains i)=iz es (idx++(List.range es.length).filter λi=> !idx.contains i):=by simp[iz]
 rw[e];refine aiY ?_ (λi hi=>?_) (λi hi=>?_)
 .rw[AO];refine⟨hn,Pl.filter _,λa ha b hb e=>?_⟩;subst e;have:=(eO.1 hb).2;simp[ha] at this
 .rcases dH.1 hi with h|h
  .exact ak i h
  .exact cw.1 (eO.1 h).1
 .by_cases h:i∈idx
  .exact ja _ h
  .exact jz _ (eO.2 ⟨cw.2 hi,by simp[h]⟩)
def aiZ (es:List (D×D))(idx:List Nat){i:Nat}{p:D×D}(h:es[i]?=some p):iz es (idx++[i])=iz es idx++[.tup [p.1,p.2]]:=by simp[iz,h]
def avz {N:Nat}{x y z code:Code}{k:Nat}{p:MP}(hp:CN x y k z=some p)(ihc:yc C Z fn s n ids R N code){rm:Bool}{S:Snap}{r:Res2}
 (hr:CO ids n p (cP x++(cP y++(cP z++cP code))) (λS=>comp C fn s n ids R rm code S) S=some r) {rd:Option Nat} {wr:Nat->Prop} {x0:Out} (iw:rm=false->rd=none/\σ0.fin) (hC:CtxOK C σ0) (hY:qz C Z w0 σ0)
 (jk:∀t,t∈cP (.loop (.seq x (.seq y (.block k (.seq z code)))))->wr t) (hn:a.tmps.size=n) (hg:Good C w0 σ0 (S.st ids) O (λ_=>False) a w) (he:r.pc.ev Z N O=some x0):
 (Code.loop (.seq x (.seq y (.block k (.seq z code))))).wpIn (FR rd) 0 C.P (iN C w0 σ0 ids fn s rm wr a r.out r.ex x0) a w:=by
 obtain⟨i1,i2,o1,o2,o3,l,rfl,rfl,rfl,hk,e1,e2,d1,g1,q1,d2,g2,q2,d3,g3,q3,oh,n1,n2,n3,n4,n5,n6⟩:=avx hp;subst hk;unfold CO at hr;split at hr
 case h_2=>cases hr;exact absurd he (nG _ _ _ _)
 rename_i J hJ;split at hr
 case h_2=>cases hr;exact absurd he (nG _ _ _ _)
 rename_i kt et L2;simp only at hr;split at hr
 case h_2=>cases hr;exact absurd he (nG _ _ _ _)
 rename_i q hq;rw[qp] at hr;split at hr
 case isFalse=>cases hr;exact absurd he (nG _ _ _ _)
 rename_i yO;cases hr;generalize Mn:cP (.region i1 p.ops1 false)++(cP (.cond (.tmp p.mo) .skip (.exit p.out))++(cP (.region i2 p.ops2 false)++cP code))=ws at*;simp only[au,iZ] at yO;obtain⟨⟨⟨⟨⟨⟨⟨⟨c1,c2⟩,c3⟩,c4⟩,c5⟩,c6⟩,c7⟩,c8⟩,c9⟩:=yO;have hex:q.2.ex=[]:=vG.1 c1;have ab6:J∉q.2.mo:=λh=>by rw[(rp _ _).2 h] at c2;cases c2
 simp only[adY,au,iZ] at c3;obtain⟨⟨c3a,c3b⟩,c3c⟩:=c3;have asK:q.1.rs.getD p.it .none=.obj J 0:=Sh.beq_eq _ _ c3a;have Mb:dT ids q.1.os J=.it kt et:=Ob.beq_eq _ _ c3b;have asB:∀t,t∈p.aa.map (·.1)->t<n:=λt ht=>by have:=bR.1 c5 t ht;rwa [jB] at this
 have Cu:p.nx<n:=by rwa [jB] at c6
 have R7:p.mo<n:=by rwa [jB] at c7
 have rh:p.pr<n:=by rwa [jB] at c8
 have Ga:=aC c9;obtain⟨hs,Cl,bG⟩:=GJ (C:=C) (w0:=w0) (σ0:=σ0) (ids:=ids) 8 hq;simp only[aD] at hs;obtain⟨q0,wH,j4⟩:=hs;obtain⟨qS,qR⟩:=q;simp only at*;subst j4;generalize hm:zA ws=m at*;generalize yX:j7 ids qS (ir ids p.next q0).mo=lo at*;have R9:=aaK (ids:=ids) (id:=p.next) (vU code wH);have arY:∀j,j∈lo->j∈(ir ids p.next q0).mo:=λj hj=>by rw[<-yX] at hj;exact CP hj
 have aGY:J∉lo:=λh=>ab6 (arY J h);have Gm:∃D1,Nf ((ir ids p.next q0).pc.ev Z N) O J (p.aa.map (·.1)) (p.aa.map (·.2)) lo D1/\x0=.exit p.out (O.put [] [] lo D1):=by
  simp only[PC.ev] at he;cases rh:Ng ((ir ids p.next q0).pc.ev Z N) O J (p.aa.map (·.1)) (p.aa.map (·.2)) lo with
  |none=>rw[rh] at he;cases he
  |some y=>
   obtain⟨D1,h1,rfl⟩:=Df.1 rh;rw[rh] at he;simp only[aX] at he;exact⟨D1,h1,he.symm⟩
 obtain⟨D1,⟨Cw,aqP⟩,hx0⟩:=Gm;generalize j2:(O.o J).tget 1=es at*
 have jj:∀o,o∈p.ops1.toList->∀d,o.dst=some d->d∈ws:=λo ho d hd=>by
  rw[<-Mn];exact ja _ (vH.2 ⟨o,ho,hd⟩)
 have dk:∀o,o∈p.ops2.toList->∀d,o.dst=some d->d∈ws:=λo ho d hd=>by
  rw[<-Mn];exact jz _ (jz _ (ja _ (vH.2 ⟨o,ho,hd⟩)))
 have hwc:∀d,d∈cP code->d∈ws:=λd hd=>by
  rw[<-Mn];exact jz _ (jz _ (jz _ hd))
 have SZ:∀t,t∈ws->wr t:=λt ht=>jk t (by rw[<-Mn] at ht;exact ht);have uC:∀t,t∈ws->aA m t=true:=λt ht=>by rw[<-hm];exact aaI ht
 have R6:∀t,aA m t=true->((qS.mask m).st ids).r t=.none:=λt ht=>by rw[GS,if_pos ht]
 have ar4:∀t,isNone (((qS.mask m).st ids).r t)=false->aA m t=false:=λt ht=>by
  cases hb:aA m t with
  |false=>rfl
  |true=>rw[R6 t hb] at ht;cases ht
 have gG:((qS.mask m).st ids).r p.it=.obj J 0:=by
  rw[GS,c3c];show cS (qS.rs.getD p.it .none)=_;rw[asK];rfl
 have cZ:((qS.mask m).st ids).o J=.it kt et:=Mb;have kA:p.ops1[0]?=some o1:=by rw[<-D5,e1];rfl
 have fF:p.ops1[1]?=some o2:=by rw[<-D5,e1];rfl
 have ho3:p.ops2[0]?=some o3:=by rw[<-D5,e2];rfl
 have as6:List.range p.ops1.size=[0,1]:=by
  have:p.ops1.size=2:=by rw[<-D6,e1];rfl
  rw[this];rfl
 have Ml:List.range p.ops2.size=0::List.range' 1 (p.ops2.size-1):=by
  have:p.ops2.size=l.length+1:=by rw[<-D6,e2];rfl
  rw[this,Pm,Jg];rfl
 have key:∀(kk:Nat) (done vo:List D) (a':Act) (w':World),SameBut wr a a'->Good C w0 σ0 ((qS.mask m).st ids) ((O.put [] [] lo vo).setO J (.tup [.list done,es])) (λ_=>False) a' w'->
  (∀ys,(done++ys).Perm (jr es)->pW ((ir ids p.next q0).pc.ev Z N) O J es (p.aa.map (·.1)) (p.aa.map (·.2)) lo ys done vo=some D1)->done.length+kk=(jr es).length+1->
  Code.roundsIn (FR rd) 0 C.P (.seq (.region i1 p.ops1 false) (.seq (.cond (.tmp p.mo) .skip (.exit p.out)) (.block p.next (.seq (.region i2 p.ops2 false) code)))) (iN C w0 σ0 ids fn s rm wr a none [(p.out,(qS.mask m).kill ids J)] x0) kk a' w':=by
  intro kk
  induction kk with
  |zero=>
   intro done vo a' w' _ gC _ hlen;exfalso;obtain⟨V,own,hv,h⟩:=gC;have bo:=h.objs J;rw[cZ] at bo;obtain⟨kb,mb,arr,clock,gA,idx,h1,h2,h3,aB,h4,h5,h6,h7,h8,h9,po,pq⟩:=bo;simp only[Env.setO,aP] at h6;injection h6 with h6;injection h6 with yH yI;injection yI with yI _;injection yH with yH;subst yH;subst yI;have hle:idx.length<=arr.size:=by
        have:=List.Nodup.length_le_of_subset h7 (l₂:=List.range arr.size) (λi hi=>cw.2 (h8 i hi));simpa using this
   simp[iz,jr,D.m] at hlen;omega
  |succ kk ih=>
   intro done vo a' w' kZ gC aS hlen;rw[roundsIn_succ];obtain⟨V,own,hv,h⟩:=gC;have bo:=h.objs J;rw[cZ] at bo;obtain⟨kb,mb,arr,clock,gA,idx,h1,h2,h3,aB,h4,h5,h6,h7,h8,h9,po,pq⟩:=bo;simp only[Env.setO,aP] at h6;injection h6 with h6;injection h6 with yH yI;injection yI with yI _;injection yH with yH;subst yH;subst yI;have gU:=h.regs p.it;rw[gG] at gU;have LZ:a'.eval (.tmp p.it)=.pointer (some ⟨kb,0,none⟩):=by
        have:=gU.2 rfl;simp only[Act.eval];rw[this];exact h1
   have sK:a'.tmps.size=n:=kZ.size.trans hn;obtain⟨w1,adE,L9⟩:=avZ (P:=C.P) h5 h4 po h8 o1.type;have GA:Below w'.heap.size w' w1:=by rcases adE with rfl|rfl;exact .refl _ _;exact⟨rfl,rfl,rfl,bj _,λ_ _=>rfl⟩
   have CD:w1.heap=w'.heap:=by rcases adE with rfl|rfl<;>rfl
   have hkl:kb<w'.heap.size:=(h.owns kb J h2).2.1;have od:mb<w'.heap.size:=(h.owns mb J h3).2.1;refine wpIn_seq (wpIn_region ?_);rw[as6];rcases L9 with⟨RS,ar⟩|⟨i,e,pz,yT,ar⟩
   ·
        refine Da kA g1 (by rw[q1];rfl) (v:=.tuple #[.bool false]) (w':=w1) (by simp only[execOp,q1,LZ];simp[ar]) ?_;rw[d1]
        refine Da fF g2 (by rw[q2];rfl) (v:=.bool false) (w':=w1) (by
         have:(a'.put (some p.nx) (.tuple #[.bool false])).eval (.tmp p.nx)=.tuple #[.bool false]:=by simp only[Act.eval];exact Dh (by omega)
         simp only[execOp,q2,this];simp[Instr.extract]) ?_
        rw[d2];simp only[wpOpsIn]
        have za:SameBut (λt=>t∈ws) a' ((a'.put (some p.nx) (.tuple #[.bool false])).put (some p.mo) (.bool false)):=by
         have s1:=SameBut.put a' (some p.nx) (.tuple #[.bool false]) a'.defers;have s2:=SameBut.put (a'.put (some p.nx) (.tuple #[.bool false])) (some p.mo) (.bool false) (a'.put (some p.nx) (.tuple #[.bool false])).defers;exact(s1.mono λt e=>by cases e;exact jj o1 (by rw[e1];simp) _ d1).trans (s2.mono λt e=>by cases e;exact jj o2 (by rw[e1];simp) _ d2)
        generalize yL:(a'.put (some p.nx) (.tuple #[.bool false])).put (some p.mo) (.bool false)=a1 at za;have R8:a1.eval (.tmp p.mo)=.bool false:=by
         rw[<-yL];simp only[Act.eval];exact Dh (by rw[size_put];omega)
        have py:a1.defers=a'.defers:=by rw[<-yL,put_defers,put_defers]
        refine wpIn_seq (wpIn_cond_false R8 (wpIn_exit ?_));have asw:(iz gA idx++[]).Perm (jr (.map gA)):=by
         rw[km];exact aiY h7 (λi hi=>by rw[h9];exact h8 i hi) (λi hi=>RS i (by omega))
        have adD:=aS [] asw;simp only[pW,aX] at adD;subst adD;refine⟨_,_,hx0,n5,qu.2 rfl,kZ.trans (za.mono SZ),?_⟩;refine⟨V,own,hv,?_⟩
        refine h.step (S':=((qS.mask m).kill ids J).st ids) (O':=O.put [] [] lo vo) (A':=λ_=>False) (λj=>j=J) py (.refl V) (h.ok.below GA) (λ_ _ _ hx=>.inl hx) (λ_ _ hx=>.inl hx) (GA.mono h.below.size) ⟨λ_=>bj _,λ_ _=>rfl⟩
         (λj hj=>⟨by rw[Tg,if_neg hj],by simp[Env.setO,bF _ _ hj],rfl,λb hb=>⟨hb,by rw[CD]⟩⟩) (λj hj=>?_) (λb j hb=>?_) (λ_=>id) (λt=>?_) (λ_ hf=>hf.elim) (λb hb _=>by rw[CD]) (λb j hb=>.inl ⟨j,hb⟩) (λj hj=>?_)
        .rw[Tg,if_pos hj];trivial
        .obtain⟨b1,b2,b3,b4⟩:=h.owns b j hb;exact⟨b1,by rw[CD];exact b2,b3,b4⟩
        .by_cases ht:t∈ws
         .refine .inr ⟨?_,λgs s' e=>absurd e (Snap.noOpt _ _ t gs s')⟩;have:(((qS.mask m).kill ids J).st ids).r t=.none:=R6 t (uC t ht);rw[this];trivial
         .exact .inl ⟨rfl,za.get t ht,rfl⟩
        .rw[Tg,if_pos hj];intro e;cases e
   ·
        obtain⟨pd,Sr⟩:∃pd,gA[i]?=some pd:=⟨_,bI (by rw[h9];exact(hZ.1 pz).1)⟩
        obtain⟨bN,dj⟩:=pq i e pd pz Sr;generalize CE:({w1 with heap:=w1.heap.setIfInBounds kb (.mapIter (some mb) clock (gY arr (idx++[i])) clock)}:World)=w2 at ar;have adF:w2.heap[kb]?=some (.mapIter (some mb) clock (gY arr (idx++[i])) clock):=by rw[<-CE];simp[CD,hkl]
        have zh:∀b,b≠kb->w2.heap[b]?=w'.heap[b]?:=λb hb=>by rw[<-CE];simp only[CD];rw[ZT (ya hb)]
        have aHt:w2.heap.size=w'.heap.size:=by rw[<-CE];simp[CD]
        have adG:w2.heap[mb]?=some (.map arr clock):=by rw[zh mb (ya aB)];exact h4
        refine Da kA g1 (by rw[q1];rfl) (v:=.tuple #[.bool true,e.key,e.val]) (w':=w2) (by simp only[execOp,q1,LZ];simp[ar]) ?_;rw[d1]
        refine Da fF g2 (by rw[q2];rfl) (v:=.bool true) (w':=w2) (by
         have:(a'.put (some p.nx) (.tuple #[.bool true,e.key,e.val])).eval (.tmp p.nx)=.tuple #[.bool true,e.key,e.val]:=by simp only[Act.eval];exact Dh (by omega)
         simp only[execOp,q2,this];simp[Instr.extract]) ?_
        rw[d2];simp only[wpOpsIn]
        have za:SameBut (λt=>t∈ws) a' ((a'.put (some p.nx) (.tuple #[.bool true,e.key,e.val])).put (some p.mo) (.bool true)):=by
         have s1:=SameBut.put a' (some p.nx) (.tuple #[.bool true,e.key,e.val]) a'.defers;have s2:=SameBut.put (a'.put (some p.nx) (.tuple #[.bool true,e.key,e.val])) (some p.mo) (.bool true) (a'.put (some p.nx) (.tuple #[.bool true,e.key,e.val])).defers;exact(s1.mono λt e=>by cases e;exact jj o1 (by rw[e1];simp) _ d1).trans (s2.mono λt e=>by cases e;exact jj o2 (by rw[e1];simp) _ d2)
        have acP:(((a'.put (some p.nx) (.tuple #[.bool true,e.key,e.val])).put (some p.mo) (.bool true))).eval (.tmp p.it)=.pointer (some ⟨kb,0,none⟩):=by
         simp only[Act.eval] at LZ ⊢;rw[Nn n2,Nn n1];exact LZ
        generalize yL:(a'.put (some p.nx) (.tuple #[.bool true,e.key,e.val])).put (some p.mo) (.bool true)=a1 at za acP;have R8:a1.eval (.tmp p.mo)=.bool true:=by
         rw[<-yL];simp only[Act.eval];exact Dh (by rw[size_put];omega)
        have py:a1.defers=a'.defers:=by rw[<-yL,put_defers,put_defers]
        refine wpIn_seq (wpIn_cond_true R8 (wpIn_skip ?_));refine wpIn_block (wpIn_seq (wpIn_region ?_));rw[Ml];refine Da ho3 g3 (by rw[q3];rfl) (v:=.tuple #[e.key,e.val]) (w':=w2) (by simp only[execOp,q3,acP];simp[aoG adF adG po pz]) ?_;rw[d3]
        have hs3:SameBut (λt=>t∈ws) a1 (a1.put (some p.pr) (.tuple #[e.key,e.val])):=
         (SameBut.put a1 (some p.pr) (.tuple #[e.key,e.val]) a1.defers).mono λt e=>by cases e;exact dk o3 (by rw[e2];simp) _ d3
        have adx:a1.tmps.size=n:=za.size.trans sK;refine ag9 (kv:=e.key) (vv:=e.val) l [] p.aa 1 _ oh (by rw[e2];rfl) (λx hx=>by rw[hs3.size,adx];exact asB _ (dW.2 ⟨x,hx,rfl⟩)) (Dh (by rw[adx];exact rh)) (λx hx=>by cases hx) (λa2 gl dX asu=>?_);have SD:SameBut (λt=>t∈ws) a' a2:=(za.trans hs3).trans (gl.mono λt ⟨o,ho,hd⟩=>dk o ho t hd);have ard:a2.defers=a'.defers:=by rw[dX,put_defers,py]
        have as3:Good C w0 σ0 (((qS.mask m).start (p.aa.map (·.1)) (p.aa.map λx=>bif Nat.beq x.2 0 then kt else et)).st ids) ((O.put (p.aa.map (·.1)) ((p.aa.map (·.2)).map (D.tup [pd.1,pd.2]).tget) lo vo).setO J (.tup [.list (iz gA idx++[.tup [pd.1,pd.2]]),.map gA])) (λ_=>False) a2 w2:=by
         have FP:Below w0.heap.size w' w2:=⟨by rw[<-CE];exact GA.os,by rw[<-CE];exact GA.tape,by rw[<-CE];exact GA.output,by omega,λb hb=>zh b (λe=>by subst e;have:=(h.owns b J h2).1;omega)⟩
         have jL:V.ok w2:=by
          refine⟨λb o v hc=>?_,λb es hc=>?_,h.ok.fz λb o v hc=>zh b λe=>by subst e;rw[(h.owns b J h2).2.2.1 o] at hc;cases hc⟩
          .have ni:b≠kb:=λe=>by subst e;rw[(h.owns b J h2).2.2.1 o] at hc;cases hc
           have:=h.ok.c b o v hc;simp only[World.cell?] at this ⊢;rw[zh b ni];exact this
          .have ni:b≠kb:=λe=>by subst e;rw[(h.owns b J h2).2.2.2] at hc;cases hc
           exact(h.ok.m b es hc).keep (zh b ni)
         have gF:∀j,((O.put (p.aa.map (·.1)) ((p.aa.map (·.2)).map (D.tup [pd.1,pd.2]).tget) lo vo).setO J (.tup [.list (iz gA idx++[.tup [pd.1,pd.2]]),.map gA])).o j=if j=J then .tup [.list (iz gA idx++[.tup [pd.1,pd.2]]),.map gA] else putL O.o lo vo j:=λj=>by
          simp only[Env.setO,fY];rfl
         refine⟨V,own,hv,h.step (λj=>j=J) ard (.refl V) jL (λ_ _ _ hx=>.inl hx) (λ_ _ hx=>.inl hx) FP ⟨λ_=>bj _,λ_ _=>rfl⟩
          (λj hj=>⟨rfl,by rw[gF,if_neg hj];simp[Env.setO,bF _ _ hj,Env.put],rfl,λb hb=>⟨hb,zh b (λe=>by subst e;rw[h2] at hb;cases hb;exact hj rfl)⟩⟩) (λj hj=>?_) (λb j hb=>?_) (λ_=>id) (λt=>?_) (λ_ hf=>hf.elim)
          (λb hb ho=>zh b (λe=>by subst e;rw[h2] at ho;cases ho)) (λb j hb=>.inl ⟨j,hb⟩) (λj hj=>?_)⟩
         .subst hj;have:(((qS.mask m).start (p.aa.map (·.1)) (p.aa.map λx=>bif Nat.beq x.2 0 then kt else et)).st ids).o j=.it kt et:=Mb;rw[this];refine⟨kb,mb,arr,clock,gA,idx++[i],h1,h2,h3,aB,adG,adF,by rw[gF,if_pos rfl,aiZ gA idx Sr],?_,?_,h9,po,pq⟩
          .rw[AO];exact⟨h7,by simp,λa ha b hb e=>by simp at hb;subst hb;subst e;exact yT ha⟩
          .intro i' dG;rcases dH.1 dG with h|h
           .exact h8 i' h
           .simp at h;subst h;exact(hZ.1 pz).1
         .obtain⟨b1,b2,b3,b4⟩:=h.owns b j hb;exact⟨b1,by omega,b3,b4⟩
         .have hc:Compat ((qS.mask m).st ids) hv (((qS.mask m).start (p.aa.map (·.1)) (p.aa.map λx=>bif Nat.beq x.2 0 then kt else et)).st ids) hv:=⟨λ_=>bj _,λ_ _=>rfl⟩
          refine .inr ⟨?_,λgs s' e=>absurd e (Snap.noOpt _ _ t gs s')⟩;show aI C _ _ V hv (cS ((tu (p.aa.map (·.1)) (p.aa.map λx=>bif Nat.beq x.2 0 then kt else et) ((qS.mask m).rs.map uv)).getD t .none)) (a2.tmps.getD t undef) (putL O.r (p.aa.map (·.1)) ((p.aa.map (·.2)).map (D.tup [pd.1,pd.2]).tget) t);rcases Wu (p.aa.map (·.1)) (p.aa.map λx=>bif Nat.beq x.2 0 then kt else et) ((qS.mask m).rs.map uv) (by simp) c4 t with e|⟨BV,vV⟩|⟨i',y,BV,vV,QV⟩
          .rw[e];trivial
          .rw[vV,Dg _ _ _ _ BV];have e3:((qS.mask m).rs.map uv).getD t .none=uv ((qS.mask m).rs.getD t .none):=by
            simp only[aK,cL];cases(qS.mask m).rs[t]?<;>rfl
           rw[e3];by_cases htw:t∈ws
           .have Ct:=R6 t (uC t htw);change cS ((qS.mask m).rs.getD t .none)=.none at Ct;generalize (qS.mask m).rs.getD t .none=s' at Ct;cases s'<;>simp[cS] at Ct<;>trivial
           .have hr:=h.regs t;change aI C _ _ V hv (cS ((qS.mask m).rs.getD t .none)) _ (O.r t) at hr;rw[SD.get t htw];generalize (qS.mask m).rs.getD t .none=s' at hr;cases s' with
            |yv=>trivial
            |opt gs s=>trivial
            |none=>trivial
            |fclo f c=>exact aI.mono' (.refl V) hc (λ_ _ e=>by cases e) hr
            |agg l=>exact aI.mono' (.refl V) hc (λ_ _ e=>by cases e) hr
            |dat t=>exact hr
            |obj j v=>exact aI.mono' (.refl V) hc (λ_ _ e=>by cases e) hr
            |ptr j v o=>exact aI.mono' (.refl V) hc (λ_ _ e=>by cases e) hr
            |eptr j v o q=>exact aI.mono' (.refl V) hc (λ_ _ e=>by cases e) hr
          .rw[QV];have arC:i'<p.aa.length:=by have:=(ga.1 BV).1;simpa using this
           rw[UE _ (p.aa.map (·.1)) _ i' t (mH c4) (by simp) BV];obtain⟨xa,lX⟩:∃xa,p.aa[i']?=some xa:=⟨_,bI arC⟩
           simp only[cL,lX,kO,aX] at BV vV;subst BV;subst vV;rw[asu xa (ko lX)];have hd:((p.aa.map (·.2)).map (D.tup [pd.1,pd.2]).tget).getD i' .none=(D.tup [pd.1,pd.2]).tget xa.2:=by simp[aK,lX]
           rw[hd];have h2x:xa.2<=1:=by
            rcases Uw l oh (λx hx=>by cases hx) xa (ko lX) with h|h
            .cases h
            .exact h.1
           rcases(by omega:xa.2=0\/xa.2=1) with e0|e0<;>rw[e0]
           .exact bN
           .exact dj
         .have:(((qS.mask m).start (p.aa.map (·.1)) (p.aa.map λx=>bif Nat.beq x.2 0 then kt else et)).st ids).o j=.it kt et:=by rw[hj];exact Mb
          rw[this];intro e;cases e
        have asv:=aiZ gA idx Sr;obtain⟨rest,wJ⟩:∃rest,(iz gA idx++(D.tup [pd.1,pd.2])::rest).Perm (jr (.map gA)):=by
         obtain⟨rest,hr⟩:=ayM (es:=gA) (idx:=idx++[i]) (by rw[AO];exact⟨h7,by simp,λa ha b hb e=>by simp at hb;subst hb;subst e;exact yT ha⟩) (λi' dG=>by
          rcases dH.1 dG with h|h
          .rw[h9];exact h8 i' h
          .simp at h;subst h;rw[h9];exact(hZ.1 pz).1)
         rw[asv] at hr;exact⟨rest,by simpa using hr⟩
        have eP:=aS _ wJ;simp only[pW] at eP;split at eP
        case h_2=>cases eP
        rename_i ρ2 LL;obtain⟨xi,eA⟩:=aaJ LL;refine wpIn_mono (ihc rm _ q0 wH rd w0 σ0 wr _ xi a2 w2 iw hC hY (λt ht=>SZ t (hwc t ht)) (SD.size.trans sK) as3 eA) λee a3 w3 gF=>?_;have kY:=aaL n6 (vU code wH) eA LL gF;have conv:∀ee a3 w3,iN C w0 σ0 ids fn s rm wr a2 (ir ids p.next q0).out (ir ids p.next q0).ex (.next ρ2) ee a3 w3->Exit.then (Code.roundsIn (FR rd) 0 C.P (.seq (.region i1 p.ops1 false) (.seq (.cond (.tmp p.mo) .skip (.exit p.out)) (.block p.next (.seq (.region i2 p.ops2 false) code)))) (iN C w0 σ0 ids fn s rm wr a none [(p.out,(qS.mask m).kill ids J)] x0) kk) (iN C w0 σ0 ids fn s rm wr a none [(p.out,(qS.mask m).kill ids J)] x0) ee a3 w3:=by
         intro ee a3 w3 ho;cases ee with
         |normal=>
          obtain⟨ρ3,T,f1,f2,f3,f4⟩:=ho;cases f1;refine ih (iz gA idx++[.tup [pd.1,pd.2]]) (lo.map ρ2.o) a3 w3 (kZ.trans ((SD.mono SZ).trans f3)) ?_ (λys wQ=>?_) (by simp at hlen ⊢;omega)
          .have ur:Good C w0 σ0 (qS.st ids) ρ2 (λ_=>False) a3 w3:=by
            have:=f4.meet2 (x:=qS)
            rwa [Cl T f2] at this
           obtain⟨σ3,zN,Gy,gQ⟩:=ur;have RE:=PC.ev_but _ _ _ ρ2 LL rfl;refine⟨σ3,zN,Gy,(gQ.maskR m).env (Snap.noOpt _ _) (λt ht=>?_) (λj hj=>?_)⟩
           .have Ct:=ar4 t ht
            have cY:t∉(ir ids p.next q0).pc.modR:=λbP=>by
                 have:=R9.1 t bP;have h2:aA (Nat.lor m (ir ids p.next q0).mr) t=true:=by rw[gd,this,oR]
                 rw[Ga,Ct] at h2;cases h2
            rw[RE.r t cY]
            have q9:t∉p.aa.map (·.1):=λaY=>by
                 have:aA m t=true:=by
                  refine uC t ?_;obtain⟨xa,lX,rfl⟩:=dW.1 aY;rcases Uw l oh (λx hx=>by cases hx) xa lX with h|⟨_,o,ho,hd⟩
                  .cases h
                  .exact dk o (by rw[e2];exact dV _ ho) _ hd
                 rw[Ct] at this;cases this
            show O.r t=putL O.r (p.aa.map (·.1)) _ t;rw[Dg _ _ _ _ q9]
           .have hjd:pK (dT ids qS.os j)=false:=hj;show cr (putL O.o lo (lo.map ρ2.o)) J _ j=ρ2.o j;by_cases Cr:j=J
            .subst Cr;rw[aP,RE.o j (λbP=>ab6 (R9.2 j bP))];simp[Env.setO,aP]
            .rw[bF _ _ Cr,uT];split
             .rfl
             .rename_i gT;have cY:j∉(ir ids p.next q0).pc.modO:=λbP=>gT (by rw[<-yX];exact eO.2 ⟨R9.2 j bP,by rw[hjd];rfl⟩);rw[RE.o j cY];simp only[Env.setO,bF _ _ Cr];exact(UF _ _ _ _ gT).symm
          .have:=aS ((D.tup [pd.1,pd.2])::ys) (by simpa using wQ);simp only[pW,LL] at this;exact this
         |exit id=>obtain⟨ρ3,T,f1,_⟩:=ho;cases f1
         |ret=>
          cases rm with
          |false=>obtain⟨d,f1,_⟩:=ho;cases f1
          |true=>obtain⟨ρ3,T,f1,_⟩:=ho;cases f1
         |_=>exact ho.elim
        cases ee with
        |exit id=>
         simp only[Exit.inBlock] at kY;show if id=p.next then _ else _;split
         .rename_i cX;rw[if_pos cX] at kY;exact conv .normal a3 w3 kY
         .rename_i cX;rw[if_neg cX] at kY;exact conv (.exit id) a3 w3 kY
        |normal=>exact conv .normal a3 w3 kY
        |ret=>exact conv .ret a3 w3 kY
        |panic c=>exact gF.elim
        |goto l=>exact gF.elim
        |_=>exact gF.elim
 have hgq:Good C w0 σ0 (qS.st ids) O (λ_=>False) a w:=bG hg;obtain⟨V,own,hv,h⟩:=hgq;have bo:=h.objs J;have:(qS.st ids).o J=.it kt et:=Mb;rw[this] at bo;obtain⟨kb,mb,arr,clock,gA,idx,h1,h2,h3,aB,h4,h5,h6,h7,h8,h9,po,pq⟩:=bo;have hρJ:O.o J=.tup [.list [],es]:=by
  rw[h6] at Cw j2;simp[D.tget] at Cw j2;rw[h6,Cw,<-j2]
 have yQ:(O.put [] [] lo (lo.map O.o)).setO J (.tup [.list [],es])=O:=by
  rw[Env.put_self];show Env.mk _ _=_;have:cr O.o J (.tup [.list [],es])=O.o:=by
   funext j;rw[fY];split
   .rename_i e;rw[e];exact hρJ.symm
   .rfl
  rw[this]
 exact wpIn_loop_rounds _ (key ((jr es).length+1) [] (lo.map O.o) a w (.refl _ _) (by rw[yQ];exact⟨V,own,hv,h.maskR m⟩) (λys wQ=>aqP ys wQ) (by simp))
def anr {N:Nat}(eF:gO C Z)(hR:Ps C n ids Z R):∀(k:Nat) (c:Code),sizeOf c<k->yc C Z fn s n ids R N c:=by
 intro k;refine Nat.rec (λc h=>absurd h (Nat.not_lt_zero _)) (λk IH=>?_) k;intro c hc;cases c with
 |skip=>
  intro rm S r h rd w0 σ0 wr O x a w iw hC hY jk hn hg he;simp only[comp,aX] at h;subst h;simp only[PC.ev,aX] at he;subst he;exact wpIn_skip ⟨O,S,rfl,rfl,.refl _ _,hg⟩
 |region id ops draw=>
  intro rm S r h rd w0 σ0 wr O x a w iw hC hY jk hn hg he;simp only[comp,aD] at h;obtain⟨q,hq,rfl⟩:=h;simp only[PC.ev,aD] at he;obtain⟨O',hr,rfl⟩:=he;exact hR id ops draw S q hq rd w0 σ0 O O' a w _ hC hY hn hg hr (λa' w' fG gC=>⟨O',q.1,rfl,rfl,fG.mono (λt ⟨o,h1,h2⟩=>jk t (vH.2 ⟨o,h1,h2⟩)),gC⟩)
 |seq c1 c2=>
  have wT:=IH c1 (by simp at hc;omega);have kC:=IH c2 (by simp at hc;omega);intro rm S r h rd w0 σ0 wr O x a w iw hC hY jk hn hg he;have jj:∀t,t∈cP c1->wr t:=λt ht=>jk t (ja _ ht);have dk:∀t,t∈cP c2->wr t:=λt ht=>jk t (jz _ ht);simp only[comp,ay] at h;obtain⟨q,hq,h⟩:=h;split at h
  .rename_i kX;cases h;refine wpIn_seq (wpIn_mono (wT rm S _ hq rd w0 σ0 wr O x a w iw hC hY jj hn hg he) λe a' w' ho=>?_);cases e with
   |normal=>obtain⟨_,_,_,h2,_⟩:=ho;rw[kX] at h2;cases h2
   |_=>exact ho
  .rename_i S1 kX;simp only[aD] at h;obtain⟨p,hp,rfl⟩:=h;simp only[PC.ev] at he
   have key:∀x1,q.pc.ev Z N O=some x1->(match some x1 with|some (.next O')=>p.pc.ev Z N O'|y=>y)=some x->(Code.seq c1 c2).wpIn (FR rd) 0 C.P (iN C w0 σ0 ids fn s rm wr a p.out (q.ex++p.ex) x) a w:=by
      intro x1 h1 h2;refine wpIn_seq (wpIn_mono (wT rm S _ hq rd w0 σ0 wr O x1 a w iw hC hY jj hn hg h1) λe a' w' ho=>?_);have other:∀{e:Exit},e≠.normal->iN C w0 σ0 ids fn s rm wr a q.out q.ex x1 e a' w'->x1=x->iN C w0 σ0 ids fn s rm wr a p.out (q.ex++p.ex) x e a' w':=by
       intro e aB ho hx;subst hx;exact ho.mono (λy hy=>ja _ hy) (.refl _ _) (λe=>absurd e aB)
      cases e with
      |normal=>
       obtain⟨ρ1,S2,e1,e2,gl,iQ⟩:=ho;subst e1;rw[kX] at e2;cases e2;simp only at h2;refine wpIn_mono (kC rm S1 _ hp rd w0 σ0 wr ρ1 x a' w' iw hC hY dk (gl.size.trans hn) iQ h2) λe a2 w2 fF=>?_;exact fF.mono (λy hy=>jz _ hy) gl (λ_=>rfl)
      |exit id=>
       refine other (by simp) ho ?_;obtain⟨ρ1,S2,e1,_⟩:=ho;subst e1;simpa using h2
      |ret=>
       refine other (by simp) ho ?_;cases rm with
       |false=>obtain⟨d,e1,_⟩:=ho;subst e1;simpa using h2
       |true=>obtain⟨ρ1,S2,e1,_⟩:=ho;subst e1;simpa using h2
      |_=>exact ho.elim
   cases h1:q.pc.ev Z N O with
   |none=>rw[h1] at he;simp at he
   |some x1=>rw[h1] at he;exact key x1 h1 he
 |cond c c1 c2=>
  have wT:=IH c1 (by simp at hc;omega);have kC:=IH c2 (by simp at hc;omega);intro rm S r h rd w0 σ0 wr O x a w iw hC hY jk hn hg he;have jj:∀t,t∈cP c1->wr t:=λt ht=>jk t (ja _ ht);have dk:∀t,t∈cP c2->wr t:=λt ht=>jk t (jz _ ht);simp only[comp] at h;split at h
  case h_2=>cases h;exact absurd he (nG _ _ _ _)
  rename_i e hu;simp only[ay,aD] at h;obtain⟨q,hq,p,hp,rfl⟩:=h;have hb:∃b,a.eval c=.bool b/\e.ev O=.v (.bool b):=by
   obtain⟨V,own,hv,hi⟩:=hg;have:=cK (gs:=[]) hi hC rfl hu;generalize a.eval c=v at this;generalize e.ev O=d at this;cases this with|bool b=>exact⟨b,rfl,rfl⟩
  obtain⟨b,eP,cB⟩:=hb;have sH:=vU c1 hq;have F9:=vU c2 hp;have main:∀(o:Option Snap) (lr lo:List Nat) (rx:Res2),rx=⟨.ite e lr lo q.pc p.pc,o,q.ex++p.ex,Nat.lor q.mr p.mr,kj q.mo p.mo⟩->
        (∀M,o=some M->lr=ld M (Nat.lor q.mr p.mr)/\lo=j7 ids M (kj q.mo p.mo))->
        (∀S1 ρ1 a w,q.out=some S1->Good C w0 σ0 (S1.st ids) ρ1 (λ_=>False) a w->∃M,o=some M/\Good C w0 σ0 (M.st ids) ρ1 (λ_=>False) a w)->
        (∀S1 ρ1 a w,p.out=some S1->Good C w0 σ0 (S1.st ids) ρ1 (λ_=>False) a w->∃M,o=some M/\Good C w0 σ0 (M.st ids) ρ1 (λ_=>False) a w)->
        rx.pc.ev Z N O=some x->(Code.cond c c1 c2).wpIn (FR rd) 0 C.P (iN C w0 σ0 ids fn s rm wr a rx.out rx.ex x) a w:=by
   intro o lr lo rx hrx hl sJ oh bT;subst hrx;simp only[PC.ev,cB,D.b_bool] at bT;have fin:∀(ci:Code) (qi:Res2) (xi:Out),(∀y,y∈qi.ex->y∈q.ex++p.ex)->(∀t,t∈qi.pc.modR->aA (Nat.lor q.mr p.mr) t=true)->(∀j,j∈qi.pc.modO->j∈kj q.mo p.mo)->
    (∀S1 ρ1 a w,qi.out=some S1->Good C w0 σ0 (S1.st ids) ρ1 (λ_=>False) a w->∃M,o=some M/\Good C w0 σ0 (M.st ids) ρ1 (λ_=>False) a w)->
    qi.pc.ev Z N O=some xi->(match some xi with|some (.next O')=>some (Out.next (O.join lr lo O'))|y=>y)=some x->
    ci.wpIn (FR rd) 0 C.P (iN C w0 σ0 ids fn s rm wr a qi.out qi.ex xi) a w->ci.wpIn (FR rd) 0 C.P (iN C w0 σ0 ids fn s rm wr a o (q.ex++p.ex) x) a w:=by
        intro ci qi xi hex jM nl kX eA hx hwp;refine wpIn_mono hwp λee a' w' ho=>?_;have other:ee≠.normal->xi=x->iN C w0 σ0 ids fn s rm wr a o (q.ex++p.ex) x ee a' w':=by
         intro aB k9;subst k9;exact ho.mono hex (.refl _ _) (λe=>absurd e aB)
        cases ee with
        |normal=>
         obtain⟨ρ1,S2,e1,e2,gl,iQ⟩:=ho;subst e1;simp only[aX] at hx;subst hx;obtain⟨M,hM,ur⟩:=kX S2 ρ1 a' w' e2 iQ;obtain⟨l1,l2⟩:=hl M hM;subst l1 l2;exact⟨_,M,rfl,hM,gl,ur.joined (PC.ev_but qi.pc O _ ρ1 eA rfl) jM nl⟩
        |exit id=>
         refine other (by simp) ?_;obtain⟨ρ1,S2,e1,_⟩:=ho;subst e1;simpa using hx
        |ret=>
         refine other (by simp) ?_;cases rm with
         |false=>obtain⟨d,e1,_⟩:=ho;subst e1;simpa using hx
         |true=>obtain⟨ρ1,S2,e1,_⟩:=ho;subst e1;simpa using hx
        |_=>exact ho.elim
   refine wpIn_cond eP ?_;cases b with
   |true=>
    simp only[zyy] at bT;cases eA:q.pc.ev Z N O with
    |none=>rw[eA] at bT;simp at bT
    |some xi=>
     rw[eA] at bT;refine fin c1 q xi (λy hy=>ja _ hy) (λt ht=>?_) (λj hj=>rq.2 (.inl (sH.2 j hj))) sJ eA bT (wT rm S _ hq rd w0 σ0 wr O xi a w iw hC hY jj hn hg eA);rw[gd,sH.1 t ht];rfl
   |false=>
    simp only[zyx] at bT;cases eA:p.pc.ev Z N O with
    |none=>rw[eA] at bT;simp at bT
    |some xi=>
     rw[eA] at bT;refine fin c2 p xi (λy hy=>jz _ hy) (λt ht=>?_) (λj hj=>rq.2 (.inr (F9.2 j hj))) oh eA bT (kC rm S _ hp rd w0 σ0 wr O xi a w iw hC hY dk hn hg eA);rw[gd,F9.1 t ht,oR]
  have sJ:∀S1 ρ1 a w,q.out=some S1->Good C w0 σ0 (S1.st ids) ρ1 (λ_=>False) a w->∃M,ns q.out p.out=some M/\Good C w0 σ0 (M.st ids) ρ1 (λ_=>False) a w:=by
   intro S1 ρ1 a w e1 g1;rw[e1];obtain⟨M,hM⟩:=@aeJ S1 p.out;exact⟨M,hM,aeH g1 hM⟩
  have oh:∀S1 ρ1 a w,p.out=some S1->Good C w0 σ0 (S1.st ids) ρ1 (λ_=>False) a w->∃M,ns q.out p.out=some M/\Good C w0 σ0 (M.st ids) ρ1 (λ_=>False) a w:=by
   intro S1 ρ1 a w e1 g1;rw[e1];obtain⟨M,hM⟩:=@aeK q.out S1;exact⟨M,hM,aeI g1 hM⟩
  cases hm:ns q.out p.out with
  |none=>
   rw[hm] at sJ oh;simp only[hm] at he ⊢;exact main none [] [] _ rfl (λM e=>by cases e) sJ oh he
  |some M=>
   rw[hm] at sJ oh;simp only[hm] at he ⊢;exact main (some M) _ _ _ rfl (λM' e=>by cases e;exact⟨rfl,rfl⟩) sJ oh he
 |block id c1=>
  have wT:=IH c1 (by simp at hc;omega);intro rm S r h rd w0 σ0 wr O x a w iw hC hY jk hn hg he;simp only[comp] at h;cases cX:Nat.beq id di<;>simp only[cX,zyy,zyx] at h
  case true=>cases h;exact absurd he (nG _ _ _ _)
  have LY:id≠di:=λe=>by subst e;simp at cX
  simp only[aD] at h;obtain⟨q,hq,rfl⟩:=h;obtain⟨xi,eA⟩:=aaJ he;exact wpIn_block (wpIn_mono (wT rm S _ hq rd w0 σ0 wr O xi a w iw hC hY jk hn hg eA) λe a' w' gF=>aaL LY (vU c1 hq) eA he gF)
 |loop c1=>
  have wT:=IH c1 (by simp at hc;omega);intro rm S r h rd w0 σ0 wr O x a w iw hC hY jk hn hg he;rw[aa6] at h;split at h
  .rename_i qb Gn;obtain⟨p,code,ws⟩:=qb;unfold zy at Gn;split at Gn
   case h_2=>cases Gn
   rename_i cx cy ck cz cc;simp only[aD] at Gn;obtain⟨p',aY,ep⟩:=Gn;cases ep;exact avz aY (IH _ (by simp at hc;omega)) h iw hC hY jk hn hg he
  split at h
  case h_2=>cases h;exact absurd he (nG _ _ _ _)
  rename_i q hq;cases h;obtain⟨hs,Cl,bG⟩:=GJ (C:=C) (w0:=w0) (σ0:=σ0) (ids:=ids) 8 hq;have sH:=vU c1 hs;simp only[PC.ev] at he
  have uq:Good C w0 σ0 (q.1.st ids) (O.put (ld q.1 q.2.mr) ((ld q.1 q.2.mr).map O.r) (j7 ids q.1 q.2.mo) ((j7 ids q.1 q.2.mo).map O.o)) (λ_=>False) a w:=by
   exact Good.joined (bG hg) (.refl O q.2.pc.modR q.2.pc.modO) sH.1 sH.2
  have key:∀(k:Nat) (ρ1:Env) (a':Act) (w:World),SameBut wr a a'->jn (q.2.pc.ev Z N) O (ld q.1 q.2.mr) (j7 ids q.1 q.2.mo) k ((ld q.1 q.2.mr).map ρ1.r) ((j7 ids q.1 q.2.mo).map ρ1.o)=some x->
        Good C w0 σ0 (q.1.st ids) (O.join (ld q.1 q.2.mr) (j7 ids q.1 q.2.mo) ρ1) (λ_=>False) a' w->Code.roundsIn (FR rd) 0 C.P c1 (iN C w0 σ0 ids fn s rm wr a none q.2.ex x) k a' w:=by
   intro k
   induction k with
   |zero=>intro ρ1 a' w hn hl hg;simp[jn] at hl
   |succ k ih=>
    intro ρ1 a' w kZ hl hg;rw[roundsIn_succ];simp only[jn] at hl;change (match q.2.pc.ev Z N (O.join (ld q.1 q.2.mr) (j7 ids q.1 q.2.mo) ρ1) with|some (.next O')=>_|y=>y)=some x at hl;cases eA:q.2.pc.ev Z N (O.join (ld q.1 q.2.mr) (j7 ids q.1 q.2.mo) ρ1) with
    |none=>rw[eA] at hl;simp at hl
    |some xi=>
     rw[eA] at hl;refine wpIn_mono (wT rm _ _ hs rd w0 σ0 wr _ xi a' w iw hC hY jk (kZ.size.trans hn) hg eA) λe a2 w' gF=>?_;have other:e≠.normal->xi=x->iN C w0 σ0 ids fn s rm wr a none q.2.ex x e a2 w':=by
         intro aB k9;subst k9;exact gF.mono (λy hy=>hy) kZ (λe=>absurd e aB)
     cases e with
     |normal=>
      obtain⟨ρ2,S2,e1,e2,gl,iQ⟩:=gF;subst e1;simp only at hl;refine ih ρ2 a2 w' (kZ.trans gl) hl ?_
      have ur:Good C w0 σ0 (q.1.st ids) ρ2 (λ_=>False) a2 w':=by
       have:=iQ.meet2 (x:=q.1)
       rwa [Cl S2 e2] at this
      refine ur.joined (mr':=ld q.1 q.2.mr++q.2.pc.modR) (mo':=j7 ids q.1 q.2.mo++q.2.pc.modO) ?_ (λt ht=>?_) (λj hj=>?_)
      .exact((Env.but.join O ρ1 _ _).mono (λt ht=>ja _ ht) (λt ht=>ja _ ht)).trans
        ((PC.ev_but q.2.pc _ _ ρ2 eA rfl).mono (λt ht=>jz _ ht) (λt ht=>jz _ ht))
      .exact(dH.1 ht).elim MH (sH.1 t)
      .exact(dH.1 hj).elim CP (sH.2 j)
     |exit id=>
      refine other (by simp) ?_;obtain⟨ρ1,S2,e1,_⟩:=gF;subst e1;simpa using hl
     |ret=>
      refine other (by simp) ?_;cases rm with
      |false=>obtain⟨d,e1,_⟩:=gF;subst e1;simpa using hl
      |true=>obtain⟨ρ1,S2,e1,_⟩:=gF;subst e1;simpa using hl
     |_=>exact gF.elim
  exact wpIn_loop_rounds N (key N O a w (.refl _ _) he uq)
 |exit id=>
  intro rm S r h rd w0 σ0 wr O x a w iw hC hY jk hn hg he;simp only[comp] at h;cases cX:Nat.beq id di<;>simp only[cX,zyy,zyx] at h
  case true=>cases h;exact absurd he (nG _ _ _ _)
  cases h;simp only[PC.ev,aX] at he;subst he;exact wpIn_exit ⟨O,S,rfl,λe=>by subst e;simp at cX,by simp,.refl _ _,hg⟩
 |ret=>
  intro rm S r h rd w0 σ0 wr O x a w iw hC hY jk hn hg he;simp only[comp] at h;cases rm<;>simp only[zyy,zyx] at h
  case true=>
   cases h;simp only[PC.ev,aX] at he;subst he;exact wpIn_ret ⟨O,S,rfl,by simp,.refl _ _,hg⟩
  split at h
  .rename_i e Gp;cases h;simp only[PC.ev,aX] at he;subst he;obtain⟨V,own,hv,hi⟩:=hg;exact wpIn_ret ⟨_,rfl,Inv.retD hC (λ_=>rfl) (iw rfl).2 Gp _ hi rfl,.refl _ _⟩
  .cases h;exact absurd he (nG _ _ _ _)
 |rangeFunc g ps ca cb=>exact axU eF (IH ca (by simp at hc;omega)) (IH cb (by simp at hc;omega))
 |_=>intro rm S r h rd w0 σ0 wr O x a w iw hC hY jk hn hg he;simp only[comp,aX] at h;subst h;exact absurd he (nG _ _ _ _)
def anq {N:Nat}(eF:gO C Z)(hR:Ps C n ids Z R)(c:Code):yc C Z fn s n ids R N c:=anr eF hR _ c (Nat.lt_succ_self _)
end
end Cx
