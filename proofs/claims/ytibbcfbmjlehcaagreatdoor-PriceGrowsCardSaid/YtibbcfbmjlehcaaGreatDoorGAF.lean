/-
  Code: sequences, choices, blocks, loops.
-/
import Derived.LoopNIn
import Derived.Test.YtibbcfbmjlehcaaGreatDoorGAE
import Derived.LoopN
set_option linter.defProp false
set_option linter.unusedSimpArgs false
set_option linter.unusedVariables false
namespace Cx
open Go Go.RowKit
def aS (m t:Nat):Bool:= !Nat.beq (Nat.land 1 (Nat.shiftRight m t)) 0
def yp (m t:Nat):aS m t=m.testBit t:=by
 unfold aS Nat.testBit;show(!Nat.beq (1&&& (m>>>t)) 0)=((1&&& (m>>>t))!=0)
 generalize 1&&& (m>>>t)=x;cases x<;>rfl
def iJ (t:Nat):Nat:=Nat.shiftLeft 1 t
def tn (t:Nat):aS (iJ t) t=true:=by
 rw[yp];show(1<<<t).testBit t=true;simp[Nat.testBit_shiftLeft]
def gU (m k t:Nat):aS (Nat.lor m k) t=(aS m t||aS k t):=by
 simp only[yp];exact Nat.testBit_or m k t
def PI.mask:PI->Nat
 |.setR t _=>iJ t|.call _ t _ _=>iJ t|.callc _ t _ _=>iJ t|_=>0
def MR:List PI->Nat
 |[]=>0
 |p::l=>Nat.lor p.mask (MR l)
def PI.objs:PI->List Nat
 |.setO j _=>[j]|.mcall j _ _=>[j]|_=>[]
def fL (l:List Nat)(x:Nat):Bool:=l.any (Nat.beq x)
def kg (a b:List Nat):List Nat:=a.foldl (λacc x=>bif fL acc x then acc else x::acc) b
def agj (l:List PI):List Nat:=l.foldl (λacc p=>kg p.objs acc) []
def sv (l:List Nat)(x:Nat):fL l x=true↔x∈l:=by
 unfold fL;rw[xW];constructor
 .rintro⟨y,hy,h⟩;rw[ay h];exact hy
 .intro h;exact⟨x,h,kr x⟩
def sw {x:Nat}:∀{a b:List Nat},x∈kg a b↔x∈a\/x∈b
 |[],b=>by simp[kg]
 |y::a,b=>by
  have ih:=@sw x a (bif fL b y then b else y::b);have e:kg (y::a) b=kg a (bif fL b y then b else y::b):=rfl;rw[e,ih];cases hb:fL b y
  .simp[or_assoc,or_left_comm]
  .have:=(sv b y).1 hb;simp only[zyy,cD];constructor
   .rintro(h|h)
    .exact .inl (.inr h)
    .exact .inr h
   .rintro((h|h)|h)
    .subst h;exact .inr this
    .exact .inl h
    .exact .inr h
def ave {x:Nat}(l:List PI)(h:x∈l.flatMap PI.modO):x∈agj l:=by
 have key:∀(l:List PI) (acc:List Nat),(x∈l.flatMap PI.modO\/x∈acc)->x∈l.foldl (λacc p=>kg p.objs acc) acc:=by
  intro l
  induction l with
  |nil=>intro acc h;simpa using h
  |cons p l ih=>
   intro acc h;refine ih _ ?_;rw[vO,dO] at h;rcases h with(h|h)|h
   .refine .inr (sw.2 (.inl ?_));cases p<;>simp_all [PI.modO,PI.objs]
   .exact .inl h
   .exact .inr (sw.2 (.inr h))
 exact key l [] (.inl h)
def afQ {t:Nat}:∀(l:List PI),t∈l.flatMap PI.modR->aS (MR l) t=true
 |[],h=>by simp at h
 |p::l,h=>by
  rw[vO,dO] at h;simp only[MR,gU,kj];rcases h with h|h
  .left;cases p<;>simp[PI.modR] at h<;>subst h<;>exact tn _
  .exact .inr (afQ l h)
structure Res2 where
 pc:PC
 out:Option Snap
 ex:List (Nat×Snap)
 mr:Nat
 mo:List Nat
 deriving Inhabited
def nF:Option Snap->Option Snap->Option Snap
 |none,x=>x
 |x,none=>x
 |some a,some b=>some (a.meet b)
def qC (id:Nat):List (Nat×Snap)->Option Snap->Option Snap
 |[],acc=>acc
 |x::l,acc=>qC id l (bif Nat.beq x.1 id then nF acc (some x.2) else acc)
def iter (step:Snap->Option Res2):Nat->Snap->Option (Snap×Res2)
 |0,_=>none
 |k+1,S=>(step S).bind λr=>
  match r.out with
  |none=>some (S,r)
  |some T=>bif (S.meet T).beq S then some (S,r) else iter step k (S.meet T)
def lx (S:Snap)(m:Nat):List Nat:=(List.range S.rs.length).filter λt=>aS m t&& !isNone (cL (S.rs.getD t .none))
def j3 (ids:List Nat)(S:Snap)(l:List Nat):List Nat:=l.filter λj=> !qy (dw ids S.os j)
def iw:Res2:=⟨.is [IW],none,[],0,[]⟩
def nT (Z:aT)(N:Nat)(O:Env)(x:Out):iw.pc.ev Z N O≠some x:=by
 intro h;simp[iw,PC.ev,PI.runs,PI.run,IW,PE.ev,D.b_bool] at h
def nU:(∀t,t∈iw.pc.modR->aS iw.mr t=true)/\∀j,j∈iw.pc.modO->j∈iw.mo:=by
 constructor<;>intro t h<;>simp[iw,PC.modR,PC.modO,PI.modR,PI.modO,IW] at h
def cG:Code->List Nat
 |.region _ ops _=>ops.toList.filterMap (·.dst)
 |.seq a b=>cG a++cG b
 |.cond _ a b=>cG a++cG b
 |.block _ a=>cG a
 |.loop a=>cG a
 |_=>[]
def zA (l:List Nat):Nat:=l.foldr (λt m=>Nat.lor (iJ t) m) 0
def vm (m:Nat):Nat->List Sh->List Sh
 |_,[]=>[]
 |t,s::l=>(bif aS m t then .none else s)::vm m (t+1) l
def Snap.mask (m:Nat)(S:Snap):Snap:=⟨vm m 0 S.rs,S.os⟩
def ve:Sh->Sh
 |.yv=>.none
 |s=>s
def uu:List Nat->List Ty->List Sh->List Sh
 |p::ps,y::ys,l=>uu ps ys (l.set p (.dat y))
 |_,_,l=>l
def Snap.start (ps:List Nat)(ys:List Ty)(S:Snap):Snap:=⟨uu ps ys (S.rs.map ve),S.os⟩
def afJ (ids:List Nat)(l:List Snap)(mo:List Nat):List Nat:=mo.filter λj=>l.any λS=> !qy (dw ids S.os j)
def axK (wm:Nat)(ra rb:Res2):Res2:=
 let m:=Nat.lor wm (Nat.lor ra.mr rb.mr)
 ⟨.seq ra.pc rb.pc,rb.out.map (Snap.mask m),rb.ex.map (λx=>(x.1,x.2.mask m)),m,kg ra.mo rb.mo⟩
def gV (ids:List Nat)(id:Nat)(r:Res2):Res2:=
    match qC id r.ex r.out with
    |some M=>⟨.block id (lx M r.mr) (j3 ids M r.mo) r.pc,some M,r.ex.filter λx=> !Nat.beq x.1 id,r.mr,r.mo⟩
    |none=>⟨.block id [] [] r.pc,none,r.ex.filter λx=> !Nat.beq x.1 id,r.mr,r.mo⟩
def wZ:List (Nat×Nat)->Nat->Option Nat
 |[],_=>none
 |x::l,t=>bif Nat.beq x.1 t then some x.2 else wZ l t
def mc (pr:Nat):List Oper->List (Nat×Nat)->Option (List (Nat×Nat))
 |[],acc=>some acc
 |o::l,acc=>
  match o.dst,o.guard with
  |some d,none=>
   bif Nat.beq d pr||(wZ acc d).isSome then none else
   match o.op with
   |.extract (.tmp t) i=>bif Nat.beq t pr&&Nat.ble i 1 then mc pr l (acc++[(d,i)]) else none
   |.assign (.tmp t)=>(wZ acc t).bind λi=>mc pr l (acc++[(d,i)])
   |.move (.tmp t)=>(wZ acc t).bind λi=>mc pr l (acc++[(d,i)])
   |_=>none
  |_,_=>none
structure MP where
 it:Nat
 nx:Nat
 mo:Nat
 out:Nat
 next:Nat
 pr:Nat
 ops1:Array Oper
 ops2:Array Oper
 aa:List (Nat×Nat)
 deriving Inhabited
def CT (x y:Code)(k:Nat)(z:Code):Option MP:=
 match x,y,z with
 |.region _ ops1 false,.cond (.tmp mo) .skip (.exit out),.region _ ops2 false=>
  match ops1.toList,ops2.toList with
  |[o1,o2],o3::l=>
   match o1.dst,o1.guard,o1.op,o2.dst,o2.guard,o2.op,o3.dst,o3.guard,o3.op with
   |some nx,none,.next (.tmp it) false,some mo',none,.extract (.tmp nx') 0,some pr,none,.entry (.tmp it')=>
    bif Nat.beq mo mo'&&Nat.beq nx nx'&&Nat.beq it it'&& !Nat.beq it nx&& !Nat.beq it mo&& !Nat.beq it pr&& !Nat.beq nx mo&& !Nat.beq out cS&& !Nat.beq k cS then
     (mc pr l []).map λaa=>⟨it,nx,mo,out,k,pr,ops1,ops2,aa⟩
    else none
   |_,_,_,_,_,_,_,_,_=>none
  |_,_=>none
 |_,_,_=>none
def zq:List Nat->Nat->List Ob->List Ob
 |i::is,J,o::os=>(bif Nat.beq i J then .dead else o)::zq is J os
 |_,_,os=>os
def Snap.kill (ids:List Nat)(J:Nat)(S:Snap):Snap:=⟨S.rs,zq ids J S.os⟩
def ae5 (J:Nat)(kt et:Ty)(ids:List Nat)(p:MP)(m:Nat)(S:Snap):Bool:=
 Sh.beq (S.rs.getD p.it .none) (.obj J 0)&&Ob.beq (dw ids S.os J) (.it kt et)&& !aS m p.it
def CU (ids:List Nat)(n:Nat)(p:MP)(ws:List Nat)(f:Snap->Option Res2)(S:Snap):Option Res2:=
 match cL (S.rs.getD p.it .none) with
 |.obj J 0=>
  match dw ids S.os J with
  |.it kt et=>
   let ps:=p.aa.map (·.1)
   let ys:=p.aa.map λx=>bif Nat.beq x.2 0 then kt else et
   let m:=zA ws
   match iter (λS=>(f ((S.mask m).start ps ys)).map (gV ids p.next)) 8 S with
   |some r=>
    bif r.2.ex.isEmpty&& !fL r.2.mo J&&ae5 J kt et ids p m r.1&&il ps&&ps.all (λt=>Nat.blt t n)&&Nat.blt p.nx n&&Nat.blt p.mo n&&Nat.blt p.pr n&&Nat.beq (Nat.lor m r.2.mr) m then
       some ⟨.seq (.meach J ps (p.aa.map (·.2)) (j3 ids r.1 r.2.mo) r.2.pc) (.exit p.out),none,[(p.out,(r.1.mask m).kill ids J)],0,r.2.mo⟩
    else some iw
   |none=>some iw
  |_=>some iw
 |_=>some iw
def comp (C:Ctx)(fn:Func)(s:Sig)(n:Nat)(ids:List Nat)(R:Array Oper->Bool->Snap->Option (Snap×List PI)):Bool->Code->Snap->Option Res2
 |_,.skip,S=>some ⟨.skip,some S,[],0,[]⟩
 |_,.region _ ops draw,S=>(R ops draw S).map λr=>⟨.is r.2,some r.1,[],MR r.2,agj r.2⟩
 |rm,.seq a b,S=>(comp C fn s n ids R rm a S).bind λr=>
  match r.out with
  |none=>some r
  |some S1=>(comp C fn s n ids R rm b S1).map λq=>⟨.seq r.pc q.pc,q.out,r.ex++q.ex,Nat.lor r.mr q.mr,kg r.mo q.mo⟩
 |rm,.cond c a b,S=>
  match use C (S.st ids) [] c with
  |some (.bool,e)=>
   (comp C fn s n ids R rm a S).bind λr=>(comp C fn s n ids R rm b S).map λq=>
     match nF r.out q.out with
     |some M=>⟨.ite e (lx M (Nat.lor r.mr q.mr)) (j3 ids M (kg r.mo q.mo)) r.pc q.pc,some M,r.ex++q.ex,Nat.lor r.mr q.mr,kg r.mo q.mo⟩
     |none=>⟨.ite e [] [] r.pc q.pc,none,r.ex++q.ex,Nat.lor r.mr q.mr,kg r.mo q.mo⟩
  |_=>some iw
 |rm,.block id a,S=>bif Nat.beq id cS then some iw else(comp C fn s n ids R rm a S).map (gV ids id)
 |rm,.loop (.seq x (.seq y (.block k (.seq z code)))),S=>
  (match CT x y k z with
  |some p=>CU ids n p (cG x++(cG y++(cG z++cG code))) (λS=>comp C fn s n ids R rm code S) S
  |none=>
  match iter (λS=>comp C fn s n ids R rm (.seq x (.seq y (.block k (.seq z code)))) S) 8 S with
  |some r=>some ⟨.loop (lx r.1 r.2.mr) (j3 ids r.1 r.2.mo) r.2.pc,none,r.2.ex,r.2.mr,r.2.mo⟩
  |none=>some iw)
 |rm,.loop a,S=>
  match iter (λS=>comp C fn s n ids R rm a S) 8 S with
  |some r=>some ⟨.loop (lx r.1 r.2.mr) (j3 ids r.1 r.2.mo) r.2.pc,none,r.2.ex,r.2.mr,r.2.mo⟩
  |none=>some iw
 |_,.exit id,S=>bif Nat.beq id cS then some iw else some ⟨.exit id,none,[(id,S)],0,[]⟩
 |rm,.ret,S=>
  bif rm then some ⟨.exit cS,none,[(cS,S)],0,[]⟩ else
  match Ag C fn s (S.st ids) with
  |some e=>some ⟨.ret e,none,[],0,[]⟩
  |none=>some iw
 |rm,.rangeFunc g ps a b,S=>
  match rm,C.yl,use C (S.st ids) [] g with
  |false,none,some (.fn aa r,e)=>
   match pk aa r with
   |some ys=>
    match iter (λS=>(comp C fn s n ids R true a (S.start ps.toList ys)).bind λra=>
          match ra.out,ra.ex with
          |some S1,[]=>(comp C fn s n ids R true b S1).map (axK (zA (ps.toList++cG a++cG b)) ra)
          |_,_=>none) 8 S with
    |some r=>
     bif Nat.beq ys.length ps.size&&il ps.toList&&ps.toList.all (λp=>Nat.blt p n)&&Nat.ble r.1.rs.length n then
           some ⟨.seq (.is [.callc [] n e []]) (.each (.r n) ps.toList (afJ ids (r.1::r.2.ex.map (·.2)) r.2.mo) ((qC cS r.2.ex none).bind λM=>Ag C fn s (M.st ids)) r.2.pc),
            some r.1,r.2.ex.filter (λx=> !Nat.beq x.1 cS),iJ n,r.2.mo⟩
     else some iw
    |none=>some iw
   |none=>some iw
  |_,_,_=>some iw
 |_,_,_=>some iw
termination_by structural _ c=>c
def zy:Code->Option (MP×Code×List Nat)
 |.seq x (.seq y (.block k (.seq z code)))=>(CT x y k z).map λp=>(p,code,cG x++(cG y++(cG z++cG code)))
 |_=>none
def ab4 (C:Ctx)(fn:Func)(s:Sig)(n:Nat)(ids:List Nat)(R:Array Oper->Bool->Snap->Option (Snap×List PI))(rm:Bool)(a:Code)(S:Snap):comp C fn s n ids R rm (.loop a) S=
 match zy a with
 |some q=>CU ids n q.1 q.2.2 (λS=>comp C fn s n ids R rm q.2.1 S) S
 |none=>
  match iter (λS=>comp C fn s n ids R rm a S) 8 S with
  |some r=>some ⟨.loop (lx r.1 r.2.mr) (j3 ids r.1 r.2.mo) r.2.pc,none,r.2.ex,r.2.mr,r.2.mo⟩
  |none=>some iw:=by
 by_cases h:∃x y k z code,a=.seq x (.seq y (.block k (.seq z code)))
 .obtain⟨x,y,k,z,code,rfl⟩:=h
  conv=>lhs;unfold comp
  simp only[zy];cases CT x y k z<;>rfl
 .have e:zy a=none:=by
   unfold zy;split
   .rename_i x y k z code;exact absurd ⟨x,y,k,z,code,rfl⟩ h
   .rfl
  rw[e];rw[comp];intro x y k z code e;exact h ⟨x,y,k,z,code,e⟩
def subs:Code->List Code
 |.seq a b=>.seq a b::(subs a++subs b)
 |.cond c a b=>.cond c a b::(subs a++subs b)
 |.block i a=>.block i a::subs a
 |.loop a=>.loop a::subs a
 |.rangeFunc g ps a b=>.rangeFunc g ps a b::(subs a++subs b)
 |c=>[c]
def ayv (c:Code):c∈subs c:=by cases c<;>simp[subs]
def aHP {a code:Code}{p:MP}{ws:List Nat}(h:zy a=some (p,code,ws)):code∈subs a:=by
 unfold zy at h;split at h
 .simp only[aB] at h;obtain⟨q,_,e⟩:=h;cases e;simp[subs,ayv]
 .cases h
def PR (C:Ctx)(n:Nat)(ids:List Nat)(Z:aT)(R:Array Oper->Bool->Snap->Option (Snap×List PI)):Prop:=
 ∀(id:Nat) (ops:Array Oper) (draw:Bool) (S:Snap) (r:Snap×List PI),R ops draw S=some r->
  ∀(rd:Option Nat) (w0:World) (σ0:Base) (O O':Env) (a:Act) (w:World) (Q:Exit->Act->World->Prop),CtxOK C σ0->uJ C Z w0 σ0->a.tmps.size=n->Good C w0 σ0 (S.st ids) O (λ_=>False) a w->PI.runs Z r.2 O=some O'->
   (∀a' w',SameBut (BW ops) a a'->Good C w0 σ0 (r.1.st ids) O' (λ_=>False) a' w'->Q .normal a' w')->(Code.region id ops draw).wpIn (FR rd) 0 C.P Q a w
section
variable {C:Ctx} {O O':Env} {V:Im} {own:Nat->Option Nat} {hv:Nat->Value} {w0:World} {σ0:Base} {A:Nat->Prop} {a:Act} {w:World} {Z:aT} {n:Nat} {ids:List Nat} {fn:Func} {s:Sig}
 {R:Array Oper->Bool->Snap->Option (Snap×List PI)}
def iI (C:Ctx)(w0:World)(σ0:Base)(ids:List Nat)(fn:Func)(s:Sig)(rm:Bool)(wr:Nat->Prop)(a0:Act)(out:Option Snap)(ex:List (Nat×Snap))(x:Out):Exit->Act->World->Prop
 |.normal,a,w=>∃O S,x=.next O/\out=some S/\SameBut wr a0 a/\Good C w0 σ0 (S.st ids) O (λ_=>False) a w
 |.exit id,a,w=>∃O S,x=.exit id O/\id≠cS/\(id,S)∈ex/\SameBut wr a0 a/\Good C w0 σ0 (S.st ids) O (λ_=>False) a w
 |.ret,a,w=>match rm with
  |false=>∃d,x=.ret d/\tg C w0 σ0 fn s d a.tmps a.defers w/\SameBut wr a0 a
  |true=>∃O S,x=.exit cS O/\(cS,S)∈ex/\SameBut wr a0 a/\Good C w0 σ0 (S.st ids) O (λ_=>False) a w
 |_,_,_=>False
def Good.meet1 {x y:Snap}(h:Good C w0 σ0 (x.st ids) O A a w):Good C w0 σ0 ((x.meet y).st ids) O (λ_=>False) a w:=by
 obtain⟨V,own,hv,h⟩:=h;exact⟨V,own,hv,Snap.meet_ok1 h⟩
def Good.meet2 {x y:Snap}(h:Good C w0 σ0 (y.st ids) O A a w):Good C w0 σ0 ((x.meet y).st ids) O (λ_=>False) a w:=by
 obtain⟨V,own,hv,h⟩:=h;exact⟨V,own,hv,Snap.meet_ok2 h⟩
def afX {x:Snap}{y:Option Snap}{M:Snap}(h:Good C w0 σ0 (x.st ids) O (λ_=>False) a w)(hm:nF (some x) y=some M):Good C w0 σ0 (M.st ids) O (λ_=>False) a w:=by
 cases y<;>simp[nF] at hm<;>subst hm
 .exact h
 .exact h.meet1
def afY {x:Option Snap}{y:Snap}{M:Snap}(h:Good C w0 σ0 (y.st ids) O (λ_=>False) a w)(hm:nF x (some y)=some M):Good C w0 σ0 (M.st ids) O (λ_=>False) a w:=by
 cases x<;>simp[nF] at hm<;>subst hm
 .exact h
 .exact h.meet2
def afZ {x:Snap}{y:Option Snap}:∃M,nF (some x) y=some M:=by cases y<;>simp[nF]
def af0 {x:Option Snap}{y:Snap}:∃M,nF x (some y)=some M:=by cases x<;>simp[nF]
def MS {id:Nat}:∀(l:List (Nat×Snap)) {x:Snap},Good C w0 σ0 (x.st ids) O (λ_=>False) a w->∃M,qC id l (some x)=some M/\Good C w0 σ0 (M.st ids) O (λ_=>False) a w
 |[],x,h=>⟨x,rfl,h⟩
 |y::l,x,h=>by
  simp only[qC];cases Nat.beq y.1 id
  .exact MS l h
  .obtain⟨M,hM⟩:=@afZ x (some y.2);simp only[zyy,hM];exact MS l (afX h hM)
def T7 {id:Nat}{S:Snap}(h:Good C w0 σ0 (S.st ids) O (λ_=>False) a w):∀(l:List (Nat×Snap)) (x:Option Snap),(id,S)∈l->∃M,qC id l x=some M/\Good C w0 σ0 (M.st ids) O (λ_=>False) a w
 |y::l,x,hm=>by
  simp only[qC];rcases cD.1 hm with e|hm
  .subst e;simp only[kr,zyy];obtain⟨M,hM⟩:=@af0 x S;rw[hM];exact MS l (afY h hM)
  .exact T7 h l _ hm
def GQ {step:Snap->Option Res2}:∀(k:Nat) {S:Snap} {r:Snap×Res2},iter step k S=some r->
 step r.1=some r.2/\(∀T,r.2.out=some T->r.1.meet T=r.1)/\∀{O:Env} {a:Act} {w:World},Good C w0 σ0 (S.st ids) O (λ_=>False) a w->Good C w0 σ0 (r.1.st ids) O (λ_=>False) a w
 |0,S,r,h=>by simp[iter] at h
 |k+1,S,r,h=>by
  simp only[iter,az] at h;obtain⟨q,hq,h⟩:=h;split at h
  .rename_i ho;cases h;exact⟨hq,λT hT=>by simp[ho] at hT,λg=>g⟩
  .rename_i T ho;cases hb:(S.meet T).beq S<;>simp only[hb,zyy,zyx] at h
   .obtain⟨h1,h2,h3⟩:=GQ k h;exact⟨h1,h2,λg=>h3 g.meet1⟩
   .cases h;refine⟨hq,λT' hT=>?_,λg=>g⟩;simp only[ho,ba] at hT;subst hT;exact Snap.beq_eq _ _ hb
def afb {step:Snap->Option Res2}{hv:Nat->Value}:∀(k:Nat) {S:Snap} {r:Snap×Res2},iter step k S=some r->Inv C (S.st ids) O V own hv w0 σ0 (λ_=>False) a w->Inv C (r.1.st ids) O V own hv w0 σ0 (λ_=>False) a w
 |0,S,r,h,_=>by simp[iter] at h
 |k+1,S,r,h,i=>by
  simp only[iter,az] at h;obtain⟨q,hq,h⟩:=h;split at h
  .cases h;exact i
  .rename_i T ho;cases hb:(S.meet T).beq S<;>simp only[hb,zyy,zyx] at h
   .exact afb k h (Snap.meet_ok1 i)
   .cases h;exact i
def Good.joined {M:Snap}{m:Nat}{mo mr' mo':List Nat}(h:Good C w0 σ0 (M.st ids) O' (λ_=>False) a w)(hb:O.but O' mr' mo')(h1:∀t,t∈mr'->aS m t=true)(h2:∀j,j∈mo'->j∈mo):
 Good C w0 σ0 (M.st ids) (O.join (lx M m) (j3 ids M mo) O') (λ_=>False) a w:=by
 obtain⟨V,own,hv,h⟩:=h;refine⟨V,own,hv,h.env (Snap.noOpt _ _) (λt ht=>?_) (λj hj=>?_)⟩
 .simp only[Env.join,Env.put,vw];split
  .rfl
  .rename_i hm;refine(hb.r t λGf=>hm ?_).symm;have af:t<M.rs.length:=by
        refine aa4 λhle=>?_;simp only[Snap.st,aF,km hle,Option.getD_none,cL,isNone] at ht;cases ht
   exact dH.2 ⟨fy.2 af,by rw[h1 t Gf];simpa [Snap.st] using ht⟩
 .simp only[Env.join,Env.put,vw];split
  .rfl
  .rename_i hm;refine(hb.o j λGf=>hm ?_).symm;exact dH.2 ⟨h2 j Gf,by simpa [Snap.st] using hj⟩
def MT {S:Snap}{m t:Nat}(h:t∈lx S m):aS m t=true:=by
 have:=(dH.1 h).2;simp only[ao] at this;exact this.1
def CV {S:Snap}{l:List Nat}{j:Nat}(h:j∈j3 ids S l):j∈l:=(dH.1 h).1
def abB {id:Nat}{q:Res2}(h:(∀t,t∈q.pc.modR->aS q.mr t=true)/\∀j,j∈q.pc.modO->j∈q.mo):(∀t,t∈(gV ids id q).pc.modR->aS (gV ids id q).mr t=true)/\∀j,j∈(gV ids id q).pc.modO->j∈(gV ids id q).mo:=by
 unfold gV;cases hm:qC id q.ex q.out<;>simp only
 .simpa [PC.modR,PC.modO] using h
 .refine⟨λt ht=>?_,λj hj=>?_⟩
  .simp only[PC.modR,dO] at ht;exact ht.elim MT (h.1 t)
  .simp only[PC.modO,dO] at hj;exact hj.elim CV (h.2 j)
def au6 {p:MP}{ws:List Nat}{f:Snap->Option Res2}{S:Snap}{r:Res2}(h:CU ids n p ws f S=some r):(∀t,t∈r.pc.modR->aS r.mr t=true)/\∀j,j∈r.pc.modO->j∈r.mo:=by
 unfold CU at h;split at h
 case h_2=>cases h;exact nU
 split at h
 case h_2=>cases h;exact nU
 simp only at h;split at h
 case h_2=>cases h;exact nU
 rw[q9] at h;split at h
 .cases h;refine⟨λt ht=>by simp[PC.modR] at ht,λj hj=>?_⟩;simp only[PC.modO,vM] at hj;exact CV hj
 .cases h;exact nU
def v7:∀(c:Code) {rm:Bool} {S:Snap} {r:Res2},comp C fn s n ids R rm c S=some r->(∀t,t∈r.pc.modR->aS r.mr t=true)/\∀j,j∈r.pc.modO->j∈r.mo:=by
 intro c
 induction c with
 |skip=>intro rm S r h;simp only[comp,ba] at h;subst h;simp[PC.modR,PC.modO]
 |region id ops draw=>
  intro rm S r h;simp only[comp,aB] at h;obtain⟨q,_,rfl⟩:=h;exact⟨λt ht=>afQ _ ht,λj hj=>ave _ hj⟩
 |seq x y j0 zn=>
  intro rm S r h;simp only[comp,az] at h;obtain⟨q,hq,h⟩:=h;split at h
  .cases h;exact j0 hq
  .simp only[aB] at h;obtain⟨p,hp,rfl⟩:=h;refine⟨λt ht=>?_,λj hj=>?_⟩
   .simp only[PC.modR,dO] at ht;rw[gU,kj];exact ht.imp ((j0 hq).1 t) ((zn hp).1 t)
   .simp only[PC.modO,dO] at hj;rw[sw];exact hj.imp ((j0 hq).2 j) ((zn hp).2 j)
 |cond c x y j0 zn=>
  intro rm S r h;simp only[comp] at h;split at h
  case h_2=>cases h;exact nU
  rename_i e _;simp only[az,aB] at h;obtain⟨q,hq,p,hp,rfl⟩:=h;cases hm:nF q.out p.out<;>simp only[hm]
  .refine⟨λt ht=>?_,λj hj=>?_⟩
   .simp only[PC.modR,dO,ya] at ht;rw[gU,kj];exact ht.imp ((j0 hq).1 t) ((zn hp).1 t)
   .simp only[PC.modO,dO,ya] at hj;rw[sw];exact hj.imp ((j0 hq).2 j) ((zn hp).2 j)
  .refine⟨λt ht=>?_,λj hj=>?_⟩
   .simp only[PC.modR,dO] at ht;rw[gU,kj];rcases ht with(ht|ht)|ht
    .have:=MT ht;rw[gU,kj] at this;exact this
    .exact .inl ((j0 hq).1 t ht)
    .exact .inr ((zn hp).1 t ht)
   .simp only[PC.modO,dO] at hj;rcases hj with(hj|hj)|hj
    .exact CV hj
    .exact sw.2 (.inl ((j0 hq).2 j hj))
    .exact sw.2 (.inr ((zn hp).2 j hj))
 |block id x j0=>
  intro rm S r h;simp only[comp] at h;cases cN:Nat.beq id cS<;>simp only[cN,zyy,zyx] at h
  case true=>cases h;exact nU
  simp only[aB] at h;obtain⟨q,hq,rfl⟩:=h;exact abB (j0 hq)
 |loop x j0=>
  intro rm S r h;rw[ab4] at h;split at h
  .exact au6 h
  split at h
  case h_2=>cases h;exact nU
  rename_i q hq;cases h;have hs:=(GQ (C:=C) (w0:=default) (σ0:=Base.mk0 ⟨λ_ _=>none,λ_=>none⟩ 0) (ids:=ids) 8 hq).1;refine⟨λt ht=>?_,λj hj=>?_⟩
  .simp only[PC.modR,dO] at ht;exact ht.elim MT ((j0 hs).1 t)
  .simp only[PC.modO,dO] at hj;exact hj.elim CV ((j0 hs).2 j)
 |exit id=>
  intro rm S r h;simp only[comp] at h;cases cN:Nat.beq id cS<;>simp only[cN,zyy,zyx] at h<;>cases h
  .simp[PC.modR,PC.modO]
  .exact nU
 |ret=>
  intro rm S r h;simp only[comp] at h;cases rm<;>simp only[zyy,zyx] at h
  case true=>cases h;simp[PC.modR,PC.modO]
  split at h
  .cases h;simp[PC.modR,PC.modO]
  .cases h;exact nU
 |rangeFunc g ps x y _ _=>
  intro rm S r h;simp only[comp] at h;split at h
  case h_2=>cases h;exact nU
  split at h
  case h_2=>cases h;exact nU
  split at h
  case h_2=>cases h;exact nU
  rename_i q hq;rw[q9] at h;split at h
  .cases h;refine⟨λt ht=>?_,λj hj=>?_⟩
   .simp[PC.modR,PI.modR] at ht;subst ht;exact tn _
   .simp only[PC.modO,PI.modO,vO,List.flatMap_nil,vM,ya] at hj;exact(dH.1 hj).1
  .cases h;exact nU
 |_=>intro rm S r h;simp only[comp,ba] at h;subst h;exact nU
def iI.mono {rm:Bool}{wr:Nat->Prop}{a0 a1:Act}{out ahX:Option Snap}{ex ex':List (Nat×Snap)}{x:Out}{e:Exit}(h:iI C w0 σ0 ids fn s rm wr a0 out ex x e a w)(he:∀y,y∈ex->y∈ex')(hs:SameBut wr a1 a0)
 (ho:e=.normal->ahX=out):iI C w0 σ0 ids fn s rm wr a1 ahX ex' x e a w:=by
 cases e with
 |normal=>obtain⟨O,S,h1,h2,h3,h4⟩:=h;exact⟨O,S,h1,by rw[ho rfl];exact h2,hs.trans h3,h4⟩
 |exit id=>obtain⟨O,S,h1,h2,h3,h4,h5⟩:=h;exact⟨O,S,h1,h2,he _ h3,hs.trans h4,h5⟩
 |ret=>
  cases rm with
  |false=>obtain⟨d,h1,h2,h3⟩:=h;exact⟨d,h1,h2,hs.trans h3⟩
  |true=>obtain⟨O,S,h1,h3,h4,h5⟩:=h;exact⟨O,S,h1,he _ h3,hs.trans h4,h5⟩
 |_=>exact h.elim
def acr {body:Env->Option Out}{O:Env}{ps lo:List Nat}{rt:Option PE}{x:Out}:∀{xs vo:List D},jy body O ps lo rt xs vo=some x->
 ∃(m:Nat) (nX:Nat->List D),m<=xs.length/\nX 0=vo/\
  (∀i,i<m->∃y O',xs[i]?=some y/\body (O.put ps (partsOf ps y) lo (nX i))=some (.next O')/\lo.map O'.o=nX (i+1))/\
  ((m=xs.length/\x=.next (O.put [] [] lo (nX m)))\/
   (m<xs.length/\∃y id O',xs[m]?=some y/\body (O.put ps (partsOf ps y) lo (nX m))=some (.exit id O')/\
    ((id≠cS/\x=.exit id (O.put [] [] lo (lo.map O'.o)))\/(id=cS/\∃e,rt=some e/\x=.ret (e.ev (O.put [] [] lo (lo.map O'.o)))))))
 |[],vo,h=>by
  simp only[jy,ba] at h;exact⟨0,λ_=>vo,aZ _,rfl,λi hi=>by omega,.inl ⟨rfl,h.symm⟩⟩
 |y::xs,vo,h=>by
  simp only[jy] at h;split at h
  .rename_i O' hb;obtain⟨m,nX,h1,h2,h3,h4⟩:=acr h;refine⟨m+1,λi=>match i with|0=>vo|i+1=>nX i,by simp;omega,rfl,λi hi=>?_,?_⟩
   .cases i with
    |zero=>exact⟨y,O',rfl,hb,h2.symm⟩
    |succ i=>simpa using h3 i (by omega)
   .rcases h4 with⟨e1,e2⟩|⟨e1,z,id,ρ2,e2,e3,e4⟩
    .exact .inl ⟨by simp[e1],e2⟩
    .exact .inr ⟨by simp;omega,z,id,ρ2,by simpa using e2,e3,e4⟩
  .rename_i id O' hb;refine⟨0,λ_=>vo,kz _,rfl,λi hi=>by omega,.inr ⟨by simp,y,id,O',rfl,hb,?_⟩⟩;cases cN:Nat.beq id cS<;>simp only[cN,zyy,zyx] at h
   .refine .inl ⟨λe=>?_,(uH h).symm⟩;subst e;simp at cN
   .simp only[aB] at h;obtain⟨e,he,e2⟩:=h;exact .inr ⟨ay cN,e,he,e2.symm⟩
  .cases h
def aby {l:List Nat}{t:Nat}(h:t∈l):aS (zA l) t=true:=by
 induction l with
 |nil=>cases h
 |cons x l ih=>
  have e:zA (x::l)=Nat.lor (iJ x) (zA l):=rfl;rw[e,gU];rcases cD.1 h with e|e
  .subst e;rw[tn];rfl
  .rw[ih e];simp
def T4 (m:Nat):∀(l:List Sh) (k t:Nat),(vm m k l).getD t .none=if aS m (k+t)=true then .none else l.getD t .none
 |[],k,t=>by simp[vm]
 |s::l,k,0=>by
  simp only[vm,ri,iY];cases aS m k<;>rfl
 |s::l,k,t+1=>by
  simp only[vm,AH];rw[T4 m l (k+1) t,show k+1+t=k+(t+1) by omega]
def G0 (m:Nat)(S:Snap)(t:Nat):((S.mask m).st ids).r t=if aS m t=true then .none else(S.st ids).r t:=by
 show cL ((vm m 0 S.rs).getD t .none)=if aS m t=true then .none else cL (S.rs.getD t .none);rw[T4,gu];split<;>rfl
def avc {m:Nat}{x S:Snap}{t:Nat}(h:aS m t=true):((x.meet (S.mask m)).st ids).r t=.none:=by
 show cL ((List.zipWith j4 x.rs (vm m 0 S.rs)).getD t .none)=.none;rcases Pm (f:=j4) x.rs (vm m 0 S.rs) t with h0|⟨s,u,h1,h2,h3⟩
 .rw[h0];rfl
 .rw[T4,gu,if_pos h] at h2;subst h2;rw[h3];cases s<;>rfl
def Inv.maskR {S:Snap}{hv:Nat->Value}(h:Inv C (S.st ids) O V own hv w0 σ0 A a w)(m:Nat):Inv C ((S.mask m).st ids) O V own hv w0 σ0 (λ_=>False) a w:=by
 have hc:Compat (S.st ids) hv ((S.mask m).st ids) hv:=⟨λ_=>aZ _,λ_ _=>rfl⟩
 refine h.weaken (λt=>?_) (λj=>?_) (Snap.noOpt _ _) (λj hj=>⟨hj,rfl⟩)
 .refine aG.mono' (O:=O) (.refl V) hc (Snap.noOpt _ _ t) ?_;rw[G0];split
  .trivial
  .exact h.regs t
 .exact(h.objs j).mono (.refl V) hc rfl rfl (λk hk=>⟨hk,rfl⟩)
def Xe:∀(ps:List Nat) (ys:List Ty) (l:List Sh),ps.length=ys.length->il ps=true->∀t,(uu ps ys l).getD t .none=.none\/(t∉ps/\(uu ps ys l).getD t .none=l.getD t .none)\/∃(i:Nat) (y:Ty),ps[i]?=some t/\ys[i]?=some y/\(uu ps ys l).getD t .none=.dat y
 |[],ys,l,_,_,t=>.inr (.inl ⟨by simp,by cases ys<;>rfl⟩)
 |p::ps,[],l,h,_,t=>by simp at h
 |p::ps,y::ys,l,h,hn,t=>by
  have lW:=qD hn;rw[pS] at lW;have dT:il ps=true:=by
   simp only[il,ao] at hn;exact hn.2
  show(uu ps ys (l.set p (.dat y))).getD t .none=_\/_\/_;rcases Xe ps ys (l.set p (.dat y)) (by simpa using h) dT t with e|⟨e1,e2⟩|⟨i,z,e1,e2,e3⟩
  .exact .inl e
  .by_cases hp:t=p
   .subst hp;by_cases af:t<l.length
    .exact .inr (.inr ⟨0,y,rfl,rfl,by show(uu ps ys (l.set t (.dat y))).getD t .none=_;rw[e2];simp[aF,af]⟩)
    .left;rw[e2];simp[aF,af]
   .refine .inr (.inl ⟨by simp[hp,e1],?_⟩);show(uu ps ys (l.set p (.dat y))).getD t .none=_;rw[e2];simp only[aF,Ee];rw[if_neg (λe=>hp e.symm)]
  .exact .inr (.inr ⟨i+1,z,by simpa using e1,by simpa using e2,e3⟩)
def nP:List Nat->List Value->Array Value->Array Value
 |p::ps,v::vs,T=>nP ps vs (T.setIfInBounds p v)
 |_,_,T=>T
def ax8 (ps:Array Nat)(vs:Array Value)(T:Array Value):(ps.zip vs).foldl (λT x=>T.setIfInBounds x.1 x.2) T=nP ps.toList vs.toList T:=by
 rw[<-Array.foldl_toList,Array.toList_zip];generalize ps.toList=l;generalize vs.toList=k
 induction l generalizing k T with
 |nil=>rfl
 |cons p l ih=>
  cases k with
  |nil=>rfl
  |cons v k=>simpa [nP] using ih (T.setIfInBounds p v) k
def ajR:∀(ps:List Nat) (vs:List Value) (T:Array Value),(nP ps vs T).size=T.size
 |[],vs,T=>by cases vs<;>rfl
 |p::ps,[],T=>rfl
 |p::ps,v::vs,T=>by simp[nP,ajR ps vs]
def OO:∀(ps:List Nat) (vs:List Value) (T:Array Value) (t:Nat),t∉ps->(nP ps vs T).getD t undef=T.getD t undef
 |[],vs,T,t,_=>by cases vs<;>rfl
 |p::ps,[],T,t,_=>rfl
 |p::ps,v::vs,T,t,h=>by
  simp only[cD,not_or] at h;simp only[nP];rw[OO ps vs _ t h.2];simp only[fQ,D7];rw[if_neg (λe=>h.1 e.symm)]
def ajQ:∀(ps:List Nat) (vs:List Value) (T:Array Value) (i t:Nat),ps.Nodup->ps.length=vs.length->(∀p,p∈ps->p<T.size)->ps[i]?=some t->(nP ps vs T).getD t undef=vs.getD i undef
 |p::ps,v::vs,T,0,t,hn,hl,af,h=>by
  simp at h;subst h;rw[pS] at hn;simp only[nP];rw[OO ps vs _ p hn.1];simp[D7,af p (fS ..)]
 |p::ps,v::vs,T,i+1,t,hn,hl,af,h=>by
  rw[pS] at hn;simp only[nP];have:=ajQ ps vs (T.setIfInBounds p v) i t hn.2 (by simpa using hl) (λq hq=>by simpa using af q (fw _ hq)) (by simpa using h);simpa using this
 |p::ps,[],T,i,t,hn,hl,af,h=>by simp at hl
 |[],vs,T,i,t,hn,hl,af,h=>by simp at h
def Db (f:Nat->D):∀(ps:List Nat) (vs:List D) (t:Nat),t∉ps->putL f ps vs t=f t
 |[],vs,t,_=>by cases vs<;>rfl
 |p::ps,[],t,_=>rfl
 |p::ps,v::vs,t,h=>by
  simp only[cD,not_or] at h;simp only[putL,bC _ _ h.1];exact Db f ps vs t h.2
def Vv (f:Nat->D):∀(ps:List Nat) (vs:List D) (i t:Nat),ps.Nodup->ps.length=vs.length->ps[i]?=some t->putL f ps vs t=vs.getD i .none
 |p::ps,v::vs,0,t,hn,hl,h=>by
  simp at h;subst h;simp[putL,aN]
 |p::ps,v::vs,i+1,t,hn,hl,h=>by
  rw[pS] at hn;have ht:t∈ps:=ko (by simpa using h);have au:t≠p:=λe=>hn.1 (e▸ht);simp only[putL,bC _ _ au];have:=Vv f ps vs i t hn.2 (by simpa using hl) (by simpa using h);simpa using this
 |p::ps,[],i,t,hn,hl,h=>by simp at hl
 |[],vs,i,t,hn,hl,h=>by simp at h
def awe (ps:List Nat)(ds:List D)(i:Nat)(h:i<ps.length):(partsOf ps (.tup ds)).getD i .none=ds.getD i .none:=by
 simp[partsOf,aF,h,D.tget]
def awd (ps:List Nat)(x:D):(partsOf ps x).length=ps.length:=by simp[partsOf]
def Inv.startR {S:Snap}{hv:Nat->Value}(h:Inv C (S.st ids) O V own hv w0 σ0 A a w){ps:List Nat}{ys:List Ty}{args:List Value}{ds:List D}{lo:List Nat}{vo:List D}(hl:ps.length=ys.length)(bp:il ps=true)(af:∀p,p∈ps->p<a.tmps.size)(ha:q7 C V ys args ds)
 (hρ:O=O'.put [] [] lo vo):Inv C ((S.start ps ys).st ids) (O'.put ps (partsOf ps (.tup ds)) lo vo) V own hv w0 σ0 (λ_=>False) {tmps:=nP ps args a.tmps,defers:=[]} w:=by
 obtain⟨a1,a2,a3⟩:=ha;have hn:=qD bp;have hc:Compat (S.st ids) hv ((S.start ps ys).st ids) hv:=⟨λ_=>aZ _,λ_ _=>rfl⟩
 have ho:∀j,(O'.put ps (partsOf ps (.tup ds)) lo vo).o j=O.o j:=λj=>by rw[hρ];rfl
 refine⟨trivial,h.ok,h.le,h.old,h.newc,h.newm,h.below,h.bw,h.owns,λt=>?_,λj=>(h.objs j).mono (.refl V) hc rfl (ho j) (λk hk=>⟨hk,rfl⟩),λt gs s e=>absurd e (Snap.noOpt _ _ t gs s),?_⟩
 .show aG C _ _ V hv (cL ((uu ps ys (S.rs.map ve)).getD t .none)) ((nP ps args a.tmps).getD t undef) (putL O'.r ps (partsOf ps (.tup ds)) t);rcases Xe ps ys (S.rs.map ve) hl bp t with e|⟨e1,e2⟩|⟨i,y,e1,e2,e3⟩
  .rw[e];trivial
  .rw[e2,OO _ _ _ _ e1,Db _ _ _ _ e1];have hr:=h.regs t;change aG C _ O V hv (cL (S.rs.getD t .none)) _ _ at hr;have hρr:O.r t=O'.r t:=by rw[hρ];show putL O'.r [] [] t=_;rfl
   rw[hρr] at hr;have e3:(S.rs.map ve).getD t .none=ve (S.rs.getD t .none):=by
        simp only[aF,cm];cases S.rs[t]?<;>rfl
   rw[e3];generalize S.rs.getD t .none=s at hr;cases s with
   |yv=>trivial
   |opt gs s=>trivial
   |none=>trivial
   |fclo f c=>exact aG.mono' (.refl V) hc (λ_ _ e=>by cases e) hr
   |agg l=>exact aG.mono' (.refl V) hc (λ_ _ e=>by cases e) hr
   |dat t=>exact hr
   |obj j v=>exact aG.mono' (.refl V) hc (λ_ _ e=>by cases e) hr
   |ptr j v o=>exact aG.mono' (.refl V) hc (λ_ _ e=>by cases e) hr
   |eptr j v o q=>exact aG.mono' (.refl V) hc (λ_ _ e=>by cases e) hr
  .rw[e3];have hi:i<ps.length:=(eL.1 e1).1;rw[ajQ ps args a.tmps i t hn (by omega) af e1,Vv _ ps _ i t hn (by rw[awd]) e1,awe _ _ _ hi];exact a3 i y e2
 .obtain⟨t,fx,cx,h1,h2⟩:=h.frame;exact⟨t,fx,cx,h1,λj hj=>⟨(h2 j hj).1,by rw[ho j];exact(h2 j hj).2⟩⟩
def yg (C:Ctx)(Z:aT)(fn:Func)(s:Sig)(n:Nat)(ids:List Nat)(R:Array Oper->Bool->Snap->Option (Snap×List PI))(N:Nat)(c:Code):Prop:=
 ∀(rm:Bool) (S:Snap) (r:Res2),comp C fn s n ids R rm c S=some r->∀(rd:Option Nat) (w0:World) (σ0:Base) (wr:Nat->Prop) (O:Env) (x:Out) (a:Act) (w:World),(rm=false->rd=none/\σ0.fin)->CtxOK C σ0->uJ C Z w0 σ0->(∀t,t∈cG c->wr t)->a.tmps.size=n->
  Good C w0 σ0 (S.st ids) O (λ_=>False) a w->r.pc.ev Z N O=some x->c.wpIn (FR rd) 0 C.P (iI C w0 σ0 ids fn s rm wr a r.out r.ex x) a w
structure Seg (V:Im) (own:Nat->Option Nat) (w:World) (V':Im) (own':Nat->Option Nat) (w':World):Prop where
 le:V.le V'
 below:Below 0 w w'
 same:∀k,k<w.heap.size->own k=none->w'.heap[k]?=w.heap[k]?
 ow:∀k j,own' k=some j->(∃i,own k=some i)\/w.heap.size<=k
 imm:∀k,((∃o x,V'.c k o=some x)\/∃x,V'.m k=some x)->(∃o x,V.c k o=some x)\/(∃x,V.m k=some x)\/(∃i,own k=some i)\/w.heap.size<=k
structure Free (L:Nat) (V:Im) (own:Nat->Option Nat):Prop where
 own:own L=none
 c:∀o,V.c L o=none
 m:V.m L=none
def Free.seg {L:Nat}{V':Im}{own':Nat->Option Nat}{w':World}(h:Free L V own)(hL:L<w.heap.size)(k:Seg V own w V' own' w'):Free L V' own':=by
 have F6:¬((∃o x,V'.c L o=some x)\/∃x,V'.m L=some x):=λe=>by
  rcases k.imm L e with⟨o,x,e⟩|⟨x,e⟩|⟨i,e⟩|e
  .rw[h.c o] at e;cases e
  .rw[h.m] at e;cases e
  .rw[h.own] at e;cases e
  .omega
 refine⟨?_,λo=>?_,?_⟩
 .cases e:own' L with
  |none=>rfl
  |some j=>
   rcases k.ow L j e with⟨i,e⟩|e
   .rw[h.own] at e;cases e
   .omega
 .cases e:V'.c L o with
  |none=>rfl
  |some x=>exact absurd (.inl ⟨o,x,e⟩) F6
 .cases e:V'.m L with
  |none=>rfl
  |some x=>exact absurd (.inr ⟨x,e⟩) F6
def ak7 (C:Ctx)(w0:World)(σ0:Base)(ids:List Nat)(wr:Nat->Prop)(a0:Act)(V:Im)(own:Nat->Option Nat)(w:World)(out:Option Snap)(ex:List (Nat×Snap))(x:Out)(e:Exit)(a':Act)(w':World):Prop:=
 ∃O' S' V' own' hv',Inv C (S'.st ids) O' V' own' hv' w0 σ0 (λ_=>False) a' w'/\Seg V own w V' own' w'/\SameBut wr a0 a'/\
  match e with
  |.normal=>x=.next O'/\out=some S'
  |.exit id=>x=.exit id O'/\id≠cS/\(id,S')∈ex
  |.ret=>x=.exit cS O'/\(cS,S')∈ex
  |_=>False
def ajL {N:Nat}{c:Code}(hc:yg C Z fn s n ids R N c){S:Snap}{r:Res2}(hr:comp C fn s n ids R true c S=some r)(mF:C.yl=none)(hC:CtxOK C σ0){wr:Nat->Prop}{O:Env}{x:Out}{hv:Nat->Value}(h:Inv C (S.st ids) O V own hv w0 σ0 (λ_=>False) a w)
 (gG:∀t,t∈cG c->wr t) (hn:a.tmps.size=n) (he:r.pc.ev Z N O=some x) (L:Nat):c.wpIn (FR (some L)) 0 C.P (ak7 C w0 σ0 ids wr a V own w r.out r.ex x) a w:=by
 obtain⟨t,fx,cx,dS,ht⟩:=h.frame;have h1:=h.toRnd (X:=λ_=>False) ht;refine wpIn_mono (hc true S r hr (some L) w0 (σ0.rnd V own w t λ_=>False) wr O x a w (λe=>by cases e) (hC.mono h.le) (λJ ys e=>by rw[mF] at e;cases e) gG hn ⟨_,_,_,h1⟩ he) λe a' w' ho=>?_
 have main:∀{S':Snap} {O':Env},SameBut wr a a'->Good C w0 (σ0.rnd V own w t λ_=>False) (S'.st ids) O' (λ_=>False) a' w'->∃V' own' hv',Inv C (S'.st ids) O' V' own' hv' w0 σ0 (λ_=>False) a' w'/\Seg V own w V' own' w'/\SameBut wr a a':=by
  intro S' O' hs hg;obtain⟨V',own',hv',h2⟩:=hg;exact⟨V',own',hv',h.ofRnd dS (λ_ _=>id) h2,⟨h2.le,h.rndBelow h2,λk hk ho=>Inv.rndSame h.ok h2 hk ho id,λk j e=>Inv.rndOwn h2 e id,λk e=>Inv.rndC h2 e id⟩,hs⟩
 cases e with
 |normal=>
  obtain⟨O',S',e1,e2,e3,e4⟩:=ho;obtain⟨V',own',hv',g1,g2,g3⟩:=main e3 e4;exact⟨O',S',V',own',hv',g1,g2,g3,e1,e2⟩
 |exit id=>
  obtain⟨O',S',e1,e0,e2,e3,e4⟩:=ho;obtain⟨V',own',hv',g1,g2,g3⟩:=main e3 e4;exact⟨O',S',V',own',hv',g1,g2,g3,e1,e0,e2⟩
 |ret=>
  obtain⟨O',S',e1,e2,e3,e4⟩:=ho;obtain⟨V',own',hv',g1,g2,g3⟩:=main e3 e4;exact⟨O',S',V',own',hv',g1,g2,g3,e1,e2⟩
 |_=>exact ho.elim
def Inv.putL {L:Nat}{hv:Nat->Value}{S:St}{O:Env}(h:Inv C S O V own hv w0 σ0 A a w)(hL:w0.heap.size<=L)(hf:Free L V own)(hx:∀t fx cx,FrOK V own w0.heap.size σ0 w t fx cx->¬fx L)(o:Obj):Inv C S O V own hv w0 σ0 A a (w.putObj L o):=
 h.keep (X:=λk=>k≠L) ⟨rfl,rfl,rfl,by simp,λk hk=>by omega⟩ (λk hk=>World.putObj_heap_other hk) (λk hk=>by omega) (λk j e1 e2=>by subst e2;rw[hf.own] at e1;cases e1) (λk o v e1 e2=>by subst e2;rw[hf.c] at e1;cases e1)
  (λk v e1 e2=>by subst e2;rw[hf.m] at e1;cases e1) (λt fx cx dS k hk e=>by subst e;exact hx t fx cx dS hk)
def aB2 {o:Oper}{L:Nat}{x:Operand}{aa:Array Operand}{ts:Array TypeId}{r:Loop}(eE:o.op=.call {callee:=.value x,args:=aa,argTypes:=ts})(hx:a.eval x=.func (.yield L) #[] #[])(hL:w.heap[L]?=some (.loop r))(hs:aa.size=r.params.size):
 (execOp a.eval o).run C.P w=.ok (.round L r.fn ((r.params.zip (aa.map a.eval)).foldl (λtmps (t,v)=>tmps.setIfInBounds t v) r.tmps) r.assign r.body) w:=by
 have hy:=run_yield (P:=C.P) (args:=aa.map a.eval) hL (by simpa using hs);simp[execOp,eE,resolve,hx,Deferred.ofValue,invoke,hy]
def axb {g:Operand}{f:Nat}{vs:List Value}{L:Nat}(hf:∃fn,C.P.funcs[f]?=some fn/\fn.body.isSome=true/\(fn.name== "runtime.NumGoroutine")=false)(hg:a.eval g=.func (.func f) #[] vs.toArray):
 (resolve a.eval (rangeCall g L) 0).run C.P w=.ok {target:=.fn (.func f) vs.toArray,args:=#[.func (.yield L) #[] #[]]} w/\
 (invoke (.fn (.func f) vs.toArray) #[.func (.yield L) #[] #[]]).run C.P w=.ok (.enter f (#[.func (.yield L) #[] #[]]++vs.toArray)) w:=by
 obtain⟨fn,h1,h2,h3⟩:=hf;obtain⟨bd,gY⟩:=aa7.1 h2;have h4:¬fn.name= "runtime.NumGoroutine" :=by simpa using h3
 constructor
 .simp only[resolve,hg];simp[go_sem]
 .simp[invoke,callFunc,h1,gY,h4]
def FrOK.enter {hv:Nat->Value}{S:St}{O:Env}(h:Inv C S O V own hv w0 σ0 A a w){t:D}{fx cx:Nat->Prop}(hf:FrOK V own w0.heap.size σ0 w t fx cx)(r:Loop):FrOK (V.mark w.heap.size) own w0.heap.size σ0 ((w.alloc (.deferred (some []))).alloc (.loop r)) t fx cx:=by
 have hb:=acx w (.deferred (some [])) (.loop r);have af:=σ0.lt _ _ _ _ hf.F;have cj:=σ0.sub _ _ _ _ hf.F;have y6:∀k x,(V.mark w.heap.size).m k=some x->V.m k=some x\/k=w.heap.size:=by
  intro k x e;simp only[Im.mark] at e;split at e
  .rename_i e2;exact .inr e2
  .exact .inl e
 refine⟨σ0.keep _ _ _ _ _ hf.F (hb.mono (kz _)) λk hk=>hb.block k (af k hk),hf.own,hf.c,λk x e hc=>?_,λk e hB hk=>?_⟩
 .rcases y6 k x e with e|e
  .exact hf.m k x e hc
  .have:=af k (cj k hc);omega
 .rcases y6 k _ e with e|e
  .exact hf.d k e hB hk
  .have:=af k hk;omega
structure RSt (C:Ctx) (w0:World) (σR:Base) (ids:List Nat) (ρ1:Env) (lo:List Nat) (aM:Act) (L:Nat) (W1:World) (σ1:Im) (rec:LoopState->Option Code->Loop) (xs:List D) (P:Nat->List D->Snap->LoopState->Option Code->Prop) (t:D) (fx cx:Nat->Prop) (w:World):Prop where
 lt:∀k,fx k->k<w.heap.size
 sub:∀k,cx k->fx k
 old:∀k,k<W1.heap.size->fx k
 ex:∃(i:Nat) (vo:List D) (Sx:Snap) (st:LoopState) (pe:Option Code) (V:Im) (own:Nat->Option Nat) (hv:Nat->Value),t=.list (xs.take i)/\P i vo Sx st pe/\Inv C (Sx.st ids) (ρ1.put [] [] lo vo) V own hv w0 σR (λ_=>False) aM w/\
  σ1.le V/\Free L V own/\w.heap[L]?=some (.loop (rec st pe))/\(∀k j,own k=some j->fx k)/\(∀k o x,V.c k o=some x->fx k)/\(∀k x,V.m k=some x->fx k)/\∀k,cx k↔((∃j,own k=some j)\/k=L)
def RSt.keep {σR:Base}{ρ1:Env}{lo:List Nat}{aM:Act}{L:Nat}{W1:World}{σ1:Im}{rec:LoopState->Option Code->Loop}{xs:List D}{P:Nat->List D->Snap->LoopState->Option Code->Prop}{t:D}{fx cx:Nat->Prop}{w w':World}
 (h0:w0.heap.size<=W1.heap.size) (hL:L<W1.heap.size) (hR:∀t f c w,σR.F t f c w->∀k,f k->k<W1.heap.size) (h:RSt C w0 σR ids ρ1 lo aM L W1 σ1 rec xs P t fx cx w) (hb:Below 0 w w') (hs:∀k,fx k->w'.heap[k]?=w.heap[k]?):
 RSt C w0 σR ids ρ1 lo aM L W1 σ1 rec xs P t fx cx w':=by
 obtain⟨i,vo,Sx,st,pe,V,own,hv,e1,e2,e3,e4,e5,e6,e7,e8,e9,e10⟩:=h.ex;refine⟨λk hk=>lM (h.lt k hk) hb.size,h.sub,h.old,i,vo,Sx,st,pe,V,own,hv,e1,e2,?_,e4,e5,(hs L (h.old L hL)).trans e6,e7,e8,e9,e10⟩;exact e3.keep (X:=fx) hb hs (λk hk=>h.old k (by omega)) e7 e8 e9 (λt f c hf k hk=>h.old k (hR _ _ _ _ hf.F k hk))
def Im.noM_m {V:Im}{k:Nat}{v:List (Value×Value)}(h:V.noM.m k=some v):V.m k=some v/\v≠cE:=by
 simp only[Im.noM] at h;split at h
 .cases h
 .rename_i au;exact⟨h,λe=>au (by rw[h,e])⟩
structure SegL (L:Nat) (V:Im) (own:Nat->Option Nat) (w:World) (V':Im) (own':Nat->Option Nat) (w':World):Prop where
 le:V.le V'
 below:Below 0 w w'
 same:∀k,k<w.heap.size->own k=none->k≠L->w'.heap[k]?=w.heap[k]?
 ow:∀k j,own' k=some j->(∃i,own k=some i)\/w.heap.size<=k
 imm:∀k,((∃o x,V'.c k o=some x)\/∃x,V'.m k=some x)->(∃o x,V.c k o=some x)\/(∃x,V.m k=some x)\/(∃i,own k=some i)\/w.heap.size<=k
def aif (w:World)(L:Nat)(o:Obj):Below 0 w (w.putObj L o):=⟨rfl,rfl,rfl,by simp,λk hk=>by omega⟩
def Seg.round {L:Nat}{V' V'':Im}{own' ahY:Nat->Option Nat}{w' lH:World}{o o':Obj}(h:Seg V own w V' own' w')(k:Seg V' own' (w'.putObj L o) V'' ahY lH):SegL L V own w V'' ahY (lH.putObj L o'):=by
 have aI:=h.below.size;have wK:=k.below.size;simp only[World.putObj_size] at wK;refine⟨h.le.trans k.le,h.below.trans ((aif _ _ _).trans (k.below.trans (aif _ _ _))),λq hq ho hL=>?_,λq j e=>?_,λq e=>?_⟩
 .have h1:own' q=none:=by
   cases e:own' q with
   |none=>rfl
   |some j=>
    rcases h.ow q j e with⟨i,e⟩|e
    .rw[ho] at e;cases e
    .omega
  rw[World.putObj_heap_other hL,k.same q (by simp;omega) h1,World.putObj_heap_other hL,h.same q hq ho]
 .rcases k.ow q j e with⟨i,e⟩|e
  .exact h.ow q i e
  .simp only[World.putObj_size] at e;exact .inr (by omega)
 .rcases k.imm q e with e|e|⟨i,e⟩|e
  .exact h.imm q (.inl e)
  .exact h.imm q (.inr e)
  .rcases h.ow q i e with e|e
   .exact .inr (.inr (.inl e))
   .exact .inr (.inr (.inr e))
  .simp only[World.putObj_size] at e;exact .inr (.inr (.inr (by omega)))
def Env.put_self (O:Env)(lo:List Nat):O.put [] [] lo (lo.map O.o)=O:=by
 have h2:∀u,putL O.o lo (lo.map O.o) u=O.o u:=λu=>by rw[vw];split<;>rfl
 show Env.mk O.r (putL O.o lo (lo.map O.o))=O;rw[funext h2]
def axc {N:Nat}(eh:gR C Z){g:Operand}{ps:Array Tmp}{ca cb:Code}(bJ:yg C Z fn s n ids R N ca)(eH:yg C Z fn s n ids R N cb):yg C Z fn s n ids R N (.rangeFunc g ps ca cb):=by
 intro rm S r hr rd w0 σ0 wr O x a w gD hC hY gG hn hg he;simp only[comp] at hr;split at hr
 case h_2=>cases hr;exact absurd he (nT _ _ _ _)
 rename_i aa rr e mF hu;split at hr
 case h_2=>cases hr;exact absurd he (nT _ _ _ _)
 rename_i ys ph;split at hr
 case h_2=>cases hr;exact absurd he (nT _ _ _ _)
 rename_i q hq;rw[q9] at hr;split at hr
 case isFalse=>cases hr;exact absurd he (nT _ _ _ _)
 rename_i yS;cases hr;simp only[ao] at yS;obtain⟨⟨⟨hl,bp⟩,af⟩,zc⟩:=yS;have hl:=ay hl;have zc:=jP zc;obtain⟨hrd,kG⟩:=gD rfl;subst hrd;obtain⟨hs,Co,_⟩:=GQ (C:=C) (w0:=w0) (σ0:=σ0) (ids:=ids) 8 hq;simp only[az] at hs;obtain⟨ra,Tb,hs⟩:=hs;split at hs
 case h_2=>cases hs
 rename_i S1 hao hax;simp only[aB] at hs;obtain⟨rb,hrb,ic⟩:=hs;have hma:=v7 ca Tb;have hmb:=v7 cb hrb;obtain⟨q1,q2⟩:=q;simp only at Tb ic zc Co he ⊢;generalize qm:afJ ids (q1::q2.ex.map (·.2)) q2.mo=lo at he;generalize wF:((qC cS q2.ex none).bind λM=>Ag C fn s (M.st ids))=rt at he;have Gt:∃f caps d,e.ev O=.clo f caps/\Z f caps=some d/\jy (q2.pc.ev Z N) (O.setR n d) ps.toList lo rt d.l (lo.map O.o)=some x:=by
  simp only[PC.ev,PI.runs,PI.run,holds,List.all_nil,zyy] at he;cases bM:e.ev O with
  |clo f caps=>
   rw[bM] at he;simp only[PE.evs,ya] at he;cases hΦ:Z f caps with
   |none=>rw[hΦ] at he;simp at he
   |some d=>
    rw[hΦ] at he;simp only[kV,pV,PE.ev,Env.setR,aN] at he;exact⟨f,caps,d,rfl,hΦ,he⟩
  |_=>rw[bM] at he;simp at he
 obtain⟨f,caps,d,bM,hΦ,he⟩:=Gt;obtain⟨V,own,hv,i⟩:=hg;have hx:=cB (gs:=[]) i hC rfl hu;rw[bM] at hx;generalize Sq:a.eval g=gv at hx;generalize bt:Ty.fn aa rr=ty at hx;cases hx with
 |fn f cs vs ds eV h1 h2 aK=>
 cases bt;obtain⟨hfn,aro⟩:=eh f cs ys eV ph;obtain⟨xs,rfl,aHv,Sr⟩:=aro caps d hΦ;simp only[D.l_list] at he;obtain⟨m,nX,hm,eG,Mf,lU⟩:=acr he;have iq0:=afb 8 hq i
 have iq:Inv C (q1.st ids) (O.setR n (.list xs)) V own hv w0 σ0 (λ_=>False) a w:=by
  refine iq0.env (Snap.noOpt _ _) (λt ht=>?_) (λ_ _=>rfl);have af:t<q1.rs.length:=by
   refine aa4 λhle=>?_;simp only[Snap.st,aF,km hle,Option.getD_none,cL,isNone] at ht;cases ht
  simp[Env.setR,bC _ _ (show t≠n by omega)]
 obtain⟨ρ1,hρ1⟩:∃ρ1,O.setR n (.list xs)=ρ1:=⟨_,rfl⟩
 rw[hρ1] at he iq Mf lU;have kI:O.o=ρ1.o:=by rw[<-hρ1];rfl
 rw[kI] at eG;refine wpIn_rangeFunc ?_;intro RI aGU;obtain⟨L,adj⟩:∃L,w.heap.size+1=L:=⟨_,rfl⟩
 obtain⟨rec,jF⟩:∃rec:LoopState->Option Code->Loop,rec=λst pe=>{state:=st,pending:=pe,fn:=RI,tmps:=a.tmps,params:=ps,assign:=ca,body:=cb,defers:=w.heap.size}:=⟨_,rfl⟩
 have i1:=iq.enter (rec .ready none);obtain⟨t,fx0,cx0,adN,Ti⟩:=iq.frame;have aq1:=σ0.lt _ _ _ _ adN.F;have Sm:=FrOK.enter iq adN (rec .ready none);have aHt:=iq.below.size;have Ce:Free L (V.mark w.heap.size) own:=by
  refine⟨?_,λo=>?_,?_⟩
  .cases e:own L with
   |none=>rfl
   |some j=>have:=(iq.owns L j e).2.1;omega
  .cases e:V.c L o with
   |none=>exact e
   |some x=>have:=iq.lt e;omega
  .simp only[Im.mark,show L≠w.heap.size by omega,if_false];cases e:V.m L with
   |none=>rfl
   |some x=>have:=iq.ltm e;omega
 have mA:V.le (V.mark w.heap.size):=by
  refine⟨λ_ _ _ e=>e,λk x e=>?_⟩;have:k≠w.heap.size:=by have:=iq.ltm e;omega
  simp[Im.mark,this,e]
 have hL1:((w.alloc (.deferred (some []))).alloc (.loop (rec .ready none))).heap[L]?=some (.loop (rec .ready none)):=by
  have:=World.alloc_heap_new (w.alloc (.deferred (some []))) (.loop (rec .ready none));rw[World.size_alloc,adj] at this;exact this
 obtain⟨W1,R0⟩:∃W1,(w.alloc (.deferred (some []))).alloc (.loop (rec .ready none))=W1:=⟨_,rfl⟩
 have aGN:W1.heap.size=w.heap.size+2:=by rw[<-R0];simp
 rw[R0] at i1 Sm hL1;have Sj:(Instr.enterLoop RI a.tmps ps ca cb none).run C.P w=.ok (L,[{target:=.collected w.heap.size,args:=#[]}]) W1:=by
  rw[<-R0,jF,<-adj];exact run_enterLoop_outer _ _ _ _ _
 obtain⟨σ1,hσ1⟩:∃σ1,V.mark w.heap.size=σ1:=⟨_,rfl⟩
 rw[hσ1] at i1 Sm Ce mA;obtain⟨aM,R1⟩:∃aM:Act,{a with defers:={target:=.collected w.heap.size,args:=#[]}::a.defers}=aM:=⟨_,rfl⟩
 have FJ:aM.tmps=a.tmps:=by rw[<-R1]
 rw[R1] at i1;have iR:=i1.toRnd (t:=t) (X:=λk=>k=L) Ti;obtain⟨σR,hσR⟩:∃σR,σ0.rnd σ1 own W1 t (λk=>k=L)=σR:=⟨_,rfl⟩
 have wu:∀t' f c w',σR.F t' f c w'->(∀k,f k->k<W1.heap.size/\k≠L)/\∀k,c k->f k/\(∀o,σ1.c k o=none)/\σ1.m k=none:=by
  rw[<-hσR];rintro t' f c w' ⟨_,h2,h3,_⟩;exact⟨λk hk=>⟨((h2 k).1 hk).1,((h2 k).1 hk).2.2.2⟩,λk hk=>(h3 k).1 hk⟩
 have hRC:CtxOK C σR:=by rw[<-hσR];exact hC.mono i1.le
 rw[hσR] at iR
 obtain⟨P,hP⟩:∃P:Nat->List D->Snap->LoopState->Option Code->Prop,P=λi vo Sx st pe=>(i<=m/\vo=nX i/\Sx=q1/\st=.ready/\pe=none)\/
  (i=m+1/\m<xs.length/\st=.done/\∃y id O',xs[m]?=some y/\q2.pc.ev Z N (ρ1.put ps.toList (partsOf ps.toList y) lo (nX m))=some (.exit id O')/\vo=lo.map O'.o/\(id,Sx)∈q2.ex/\((id≠cS/\pe=some (.exit id))\/(id=cS/\pe=some .ret))):=⟨_,rfl⟩
 obtain⟨c1,c2⟩:=axb (C:=C) (w:=W1) (L:=L) hfn Sq;refine⟨L,[{target:=.collected w.heap.size,args:=#[]}],W1,_,W1,f,_,W1,Sj,c1,λ_ _=>trivial,c2,(λe=>by cases e),?_⟩
 refine abI ((Sr σ1 W1 (.func (.yield L) #[] #[]) vs (RSt C w0 σR ids ρ1 lo aM L W1 σ1 rec xs P) (λk=>k<W1.heap.size) (λk=>(∃j,own k=some j)\/k=L) m i1.ok (hC.mono i1.le) ⟨h1,h2,λj t e=>(aK j t e).mono mA⟩ hm
  (λt f c w h=>h.lt) (λt f c w h=>h.sub) (λt f c w w' h hb hs=>h.keep (by omega) (by omega) (λt f c w hF k hk=>((wu t f c w hF).1 k hk).1) hb hs) ?_ ?_ ?_ ?_).mono ?_)
 .refine⟨λk hk=>hk,λk hk=>?_,λk hk=>hk,0,nX 0,q1,.ready,none,σ1,own,hv,by simp,by rw[hP];exact .inl ⟨kz _,rfl,rfl,rfl,rfl⟩,?_,.refl σ1,Ce,hL1,λk j e=>(iR.owns k j e).2.1,λk o x e=>iR.lt e,λk x e=>iR.ltm e,λk=>.rfl⟩
  .rcases hk with⟨j,e⟩|e
   .exact(iR.owns k j e).2.1
   .show k<W1.heap.size;omega
  .rw[eG,Env.put_self];exact iR
 .rintro k o x e (⟨j,hj⟩|rfl)
  .have:=(iR.owns k j hj).2.2.1 o;rw[e] at this;cases this
  .rw[Ce.c] at e;cases e
 .rintro k x e (⟨j,hj⟩|rfl)
  .have:=(iR.owns k j hj).2.2.2;rw[e] at this;cases this
  .rw[Ce.m] at e;cases e
 .intro i fx cx w1 σx args ds' hi dM hF hσx jB jC oR dp cT rd' o a' x' aa ts K Q eE cv adt hK;have aGZ:i<xs.length:=(eL.1 dM).1;obtain⟨i',vo,Sx,st,pe,σa,zM,hva,e1,e2,iA,Ma,FH,LJ,SP,hcA,Gc,Ck⟩:=hF.ex;have hii:i'=i:=by
   have h9:=congrArg List.length (congrArg D.l e1);simp only[D.l_list,dG] at h9;omega
  subst hii;rw[hP] at e2;rcases e2 with⟨_,rfl,FI,rfl,rfl⟩|⟨e2,_⟩
  case inr=>omega
  rw[FI] at iA;have adk:L<w1.heap.size:=hF.lt L (hF.old L (by omega));have LS:cx L:=(Ck L).2 (.inr rfl)
  have arS:∀k o v,σx.c k o=some v->zM k=none:=λk o v e=>by
   cases e2:zM k with
   |none=>rfl
   |some j=>exact absurd ((Ck k).2 (.inl ⟨j,e2⟩)) (jC k o v e)
  have Gi:∀k v,σx.m k=some v->zM k=none:=λk v e=>by
   cases e2:zM k with
   |none=>rfl
   |some j=>exact absurd ((Ck k).2 (.inl ⟨j,e2⟩)) (oR k v e)
  have hτok:σx.noM.ok w1:=⟨hσx.c,λk v e=>hσx.m k v (Im.noM_m e).1,hσx.f⟩
  have iB:=iA.joinIm (τ:=σx.noM) hτok (λk e=>(Im.noM_m e).2 rfl) arS (λk v e=>Gi k v (Im.noM_m e).1)
   (λk o v e=>(dp k o v e).imp (λe=>Ma.c k o v e) λe=>by omega) (λk v e=>(cT k v (Im.noM_m e).1).imp (λe=>Ma.m k v e) λe=>by omega)
   (λt' f c hf=>⟨λk o v e hc=>by
        obtain⟨g1,g2,g3⟩:=(wu _ _ _ _ hf.F).2 k hc;rcases dp k o v e with e|e
        .rw[g2 o] at e;cases e
        .have:=((wu _ _ _ _ hf.F).1 k g1).1;omega,λk v e hc=>by
        obtain⟨g1,g2,g3⟩:=(wu _ _ _ _ hf.F).2 k hc;rcases cT k v (Im.noM_m e).1 with e|e
        .rw[g3] at e;cases e
        .have:=((wu _ _ _ _ hf.F).1 k g1).1;omega⟩)
  have hFB:Free L (σa.plus σx.noM) zM:=by
   refine⟨FH.own,λo=>?_,?_⟩
   .cases e:(σa.plus σx.noM).c L o with
    |none=>rfl
    |some v=>
     rcases Im.plus_c e with e|e
     .rw[FH.c] at e;cases e
     .exact absurd LS (jC L o v e)
   .cases e:(σa.plus σx.noM).m L with
    |none=>rfl
    |some v=>
     rcases Im.plus_m e with e|e
     .rw[FH.m] at e;cases e
     .exact absurd LS (oR L v (Im.noM_m e).1)
  have tT:ps.toList.length=ys.length:=by rw[Ax];exact hl.symm
  have aqv:q7 C (σa.plus σx.noM) ys args ds':=⟨jB.1,jB.2.1,λj t e=>((jB.2.2 j t e).noM).mono (Im.plus_le2 iA.ok hτok)⟩
  have iC:=iB.startR (O':=ρ1) tT bp (λp hp=>by
   have:=cQ.1 af p hp;rw[FJ,hn];simpa [pU] using this) aqv rfl
  have S7:∃xi,q2.pc.ev Z N (ρ1.put ps.toList (partsOf ps.toList (.tup ds')) lo (nX i'))=some xi/\((i'<m/\∃O',xi=.next O'/\lo.map O'.o=nX (i'+1))\/(i'=m/\m<xs.length/\∃id O',xi=.exit id O')):=by
   by_cases tP:i'<m
   .obtain⟨y,O',g1,g2,g3⟩:=Mf i' tP;rw[dM] at g1;cases g1;exact⟨_,g2,.inl ⟨tP,O',rfl,g3⟩⟩
   .obtain rfl:i'=m:=by omega
    rcases lU with⟨g1,_⟩|⟨g1,y,id,O',g2,g3,_⟩
    .omega
    .rw[dM] at g2;cases g2;exact⟨_,g3,.inr ⟨rfl,g1,id,O',rfl⟩⟩
  obtain⟨xi,vj,Tz⟩:=S7;have ab:q2.pc=.seq ra.pc rb.pc:=by rw[<-ic];rfl
  rw[ab] at vj;have aI:(nP ps.toList args aM.tmps).size=n:=by rw[ajR,FJ,hn]
  refine⟨λ_ _=>trivial,?_⟩;rw[Oper.semAt_eq _ _ _ (λc e=>by rw[eE] at e;cases e)];have aqw:aa.size=ps.size:=by
   have:=jB.1;rw[<-adt,ed,Ax] at this;omega
  have ak:=aB2 (C:=C) eE cv LJ (by rw[jF];exact aqw);have ase:(rec .ready none).fn=RI/\(rec .ready none).tmps=a.tmps/\(rec .ready none).params=ps/\(rec .ready none).assign=ca/\(rec .ready none).body=cb:=by rw[jF];exact⟨rfl,rfl,rfl,rfl,rfl⟩
  obtain⟨r1,r2,r3,r4,r5⟩:=ase;rw[r1,r2,r3,r4,r5] at ak
  have ze:(ps.zip (aa.map a'.eval)).foldl (λtmps (t,v)=>tmps.setIfInBounds t v) a.tmps=nP ps.toList args aM.tmps:=by
   rw[FJ,<-adt,<-vK];exact ax8 ps (aa.map a'.eval) a.tmps
  rw[ze] at ak;rw[ak];refine⟨(λe=>by cases e),?_⟩;refine roundIn_of_wpIn (F:=FR rd') trivial ?_;show ca.wpIn (FR (some L)) 0 C.P _ _ _;cases nA:ra.pc.ev Z N (ρ1.put ps.toList (partsOf ps.toList (.tup ds')) lo (nX i')) with
  |none=>simp only[PC.ev,nA] at vj;cases vj
  |some xa=>
  refine wpIn_mono (ajL bJ Tb mF hRC iC (wr:=λt=>t∈cG ca) (λ_ h=>h) aI nA L) λe2 a1 w1' asq=>?_;obtain⟨ρ2,S2,σ2,jI,iO,iD,lX,iN,lg⟩:=asq;cases e2 with
  |normal=>
   obtain⟨rfl,wv⟩:=lg;rw[hao] at wv;cases wv;simp only[PC.ev,nA] at vj;have hL2:w1'.heap[L]?=some (.loop (rec .ready none)):=(lX.same L adk hFB.own).trans LJ;have RW:=hFB.seg adk lX;have RX:L<w1'.heap.size:=(eA.1 hL2).1;have LI:w0.heap.size<=L:=by omega
   refine⟨_,run_beginRound hL2 (by rw[jF]),?_⟩;have iE:=iD.putL LI RW (λt' f c hf FY=>((wu _ _ _ _ hf.F).1 L FY).2 rfl) (.loop {rec .ready none with state:=.busy});have hL3:(w1'.putObj L (.loop {rec .ready none with state:=.busy})).heap[L]?=some (.loop {rec .ready none with state:=.busy}):=World.putObj_heap_same RX;show cb.wpIn (FR (some L)) 0 C.P _ _ _;refine wpIn_mono (ajL eH hrb mF hRC iE (wr:=λt=>t∈cG cb) (λ_ h=>h) (iN.size.trans aI) vj L) λe3 a3 w3 asr=>?_;obtain⟨ρ3,S3,σ3,zL,GD,iF,Mp,aso,qp⟩:=asr;have hL4:w3.heap[L]?=some (.loop {rec .ready none with state:=.busy}):=(Mp.same L (by simpa using RX) RW.own).trans hL3;have hF3:=RW.seg (by simpa using RX) Mp;have aqh:L<w3.heap.size:=(eA.1 hL4).1;obtain⟨mk,wC⟩:∃mk,Nat.lor (zA (ps.toList++cG ca++cG cb)) (Nat.lor ra.mr rb.mr)=mk:=⟨_,rfl⟩
   have arJ:∀t,aS mk t=false->t∉ps.toList/\t∉cG ca/\t∉cG cb/\aS ra.mr t=false/\aS rb.mr t=false:=by
        intro t ht;rw[<-wC,gU,gU,aaE,aaE] at ht;obtain⟨t1,t2,t3⟩:=ht;have:t∉ps.toList++cG ca++cG cb:=λhm=>by rw[aby hm] at t1;cases t1
        simp only[dO,not_or] at this;exact⟨this.1.1,this.1.2,this.2,t2,t3⟩
   have Td:∀t,aS mk t=false->aM.tmps.getD t undef=a3.tmps.getD t undef/\(ρ1.put [] [] lo (lo.map ρ3.o)).r t=ρ3.r t:=by
        intro t ht;obtain⟨t1,t2,t3,t4,t5⟩:=arJ t ht;refine⟨?_,?_⟩
        .rw[aso.get t t3,iN.get t t2];exact(OO _ _ _ _ t1).symm
        .have R7:∀O',xi=.next O'\/(∃id,xi=.exit id O')->O'.r t=ρ2.r t:=λO' h=>by
          have yU:xi.env?=some O':=by rcases h with h|⟨id,h⟩<;>rw[h]<;>rfl
          exact(PC.ev_but rb.pc _ _ O' vj yU).r t λhm=>by rw[hmb.1 t hm] at t5;cases t5
         have df:ρ2.r t=putL ρ1.r ps.toList (partsOf ps.toList (.tup ds')) t:=(PC.ev_but ra.pc _ _ ρ2 nA rfl).r t λhm=>by rw[hma.1 t hm] at t4;cases t4
         rw[Db _ _ _ _ t1] at df;show ρ1.r t=ρ3.r t;rw[R7 ρ3 (by
          cases e3 with
          |normal=>exact .inl qp.1
          |exit id=>exact .inr ⟨id,qp.1⟩
          |ret=>exact .inr ⟨_,qp.1⟩
          |_=>exact qp.elim),df]
   have Gd:q2.mo=kg ra.mo rb.mo:=by rw[<-ic];rfl
   have SU:∀j,j∉q2.mo->ρ3.o j=ρ1.o j:=by
        intro j hj;rw[Gd,sw,not_or] at hj;have yU:xi.env?=some ρ3:=by
         cases e3 with
         |normal=>rw[qp.1];rfl
         |exit id=>rw[qp.1];rfl
         |ret=>rw[qp.1];rfl
         |_=>exact qp.elim
        rw[(PC.ev_but rb.pc _ _ ρ3 vj yU).o j λhm=>hj.2 (hmb.2 j hm),(PC.ev_but ra.pc _ _ ρ2 nA rfl).o j λhm=>hj.1 (hma.2 j hm)]
        exact Db _ _ _ _ λhm=>by
         rw[<-qm] at hm;have:=(dH.1 hm).1;rw[Gd,sw] at this;exact this.elim hj.1 hj.2
   have SR:∀(S:Snap),S∈(q1::q2.ex.map (·.2))->∀j,qy ((S.st ids).o j)=false->(ρ1.put [] [] lo (lo.map ρ3.o)).o j=ρ3.o j:=by
        intro S hS j hj;show putL ρ1.o lo (lo.map ρ3.o) j=ρ3.o j;rw[vw];split
        .rfl
        .rename_i hZ;refine(SU j λwz=>hZ ?_).symm;rw[<-qm];exact dH.2 ⟨wz,xW.2 ⟨S,hS,by simpa [Snap.st] using hj⟩⟩
   have fin:∀(jump:Option Code) (Sx:Snap),Inv C (Sx.st ids) (ρ1.put [] [] lo (lo.map ρ3.o)) σ3 zL GD w0 σR (λ_=>False) aM w3->P (i'+1) (lo.map ρ3.o) Sx (if jump.isNone then .ready else .done) jump->jump.isNone=decide (i'<m)->
        ∃v w',(Instr.endRound L jump).run C.P w3=.ok v w'/\K (a'.put o.dst v) w':=by
        intro jump Sx iG hPn wz;refine⟨_,_,run_endRound jump hL4,?_⟩;have asd:({{rec .ready none with state:=.busy} with state:=if jump.isNone then .ready else .done,pending:=jump}:Loop)=rec (if jump.isNone then .ready else .done) jump:=by rw[jF]
        rw[asd];have aK:=lX.round (L:=L) (o':=.loop (rec (if jump.isNone then .ready else .done) jump)) Mp;have iH:=iG.putL LI hF3 (λt' f c hf FY=>((wu _ _ _ _ hf.F).1 L FY).2 rfl) (.loop (rec (if jump.isNone then .ready else .done) jump));obtain⟨w4,Tv⟩:∃w4,w3.putObj L (.loop (rec (if jump.isNone then .ready else .done) jump))=w4:=⟨_,rfl⟩
        have hL5:w4.heap[L]?=some (.loop (rec (if jump.isNone then .ready else .done) jump)):=by rw[<-Tv];exact World.putObj_heap_same aqh
        have aHy:w4.heap.size=w3.heap.size:=by rw[<-Tv];simp
        rw[Tv] at aK iH ⊢;have aGM:W1.heap.size<=w1.heap.size:=by
         have:=hF.lt (W1.heap.size-1) (hF.old _ (by omega));omega
        have aHu:=aK.below.size
        refine hK _ _ ⟨by rw[wz],aK.below,λk hk hc=>aK.same k hk (by
         cases e:zM k with
         |none=>rfl
         |some j=>exact absurd ((Ck k).2 (.inl ⟨j,e⟩)) hc) (λe=>hc (by rw[e];exact LS)),(λk=>k<w4.heap.size/\(k<W1.heap.size\/(∃j,zL k=some j)\/(∃o x,σ3.c k o=some x)\/∃x,σ3.m k=some x)),(λk=>(∃j,zL k=some j)\/k=L),?_,?_,?_⟩
        .refine⟨λk hk=>hk.1,λk hk=>?_,λk hk=>⟨by omega,.inl hk⟩,i'+1,lo.map ρ3.o,Sx,_,jump,σ3,zL,GD,rfl,hPn,iH,Ma.trans ((Im.plus_le1 _ _).trans aK.le),hF3,hL5,λk j e=>⟨(iH.owns k j e).2.1,.inr (.inl ⟨j,e⟩)⟩,λk o x e=>⟨iH.lt e,.inr (.inr (.inl ⟨o,x,e⟩))⟩,λk x e=>⟨iH.ltm e,.inr (.inr (.inr ⟨x,e⟩))⟩,λk=>.rfl⟩;rcases hk with⟨j,e⟩|e
         .exact⟨(iH.owns k j e).2.1,.inr (.inl ⟨j,e⟩)⟩
         .exact⟨by omega,.inl (by omega)⟩
        .rintro k ⟨_,hk⟩ bG
         have F6:((∃o x,σ3.c k o=some x)\/∃x,σ3.m k=some x)->fx k\/(∃o x,σx.c k o=some x)\/(∃x,σx.m k=some x/\x≠cE):=λh=>by
          rcases aK.imm k h with⟨o,x,e⟩|⟨x,e⟩|⟨j,e⟩|e
          .rcases Im.plus_c e with e|e
           .exact .inl (hcA k o x e)
           .exact .inr (.inl ⟨o,x,e⟩)
          .rcases Im.plus_m e with e|e
           .exact .inl (Gc k x e)
           .exact .inr (.inr ⟨x,(Im.noM_m e).1,(Im.noM_m e).2⟩)
          .exact .inl (SP k j e)
          .omega
         rcases hk with hk|⟨j,e⟩|e|e
         .exact .inl (hF.old k hk)
         .rcases aK.ow k j e with⟨j',e⟩|e
          .exact .inl (SP k j' e)
          .omega
         .exact F6 (.inl e)
         .exact F6 (.inr e)
        .rintro k (⟨j,e⟩|e) bG
         .rcases aK.ow k j e with⟨j',e⟩|e
          .exact(Ck k).2 (.inl ⟨j',e⟩)
          .omega
         .rw[e];exact LS
   have qh:lJ σ3 w0.heap.size aM.defers:=iA.defers.mono ((Im.plus_le1 _ _).trans (lX.le.trans Mp.le));have S8:q2.out=rb.out.map (Snap.mask mk)/\q2.ex=rb.ex.map (λx=>(x.1,x.2.mask mk)):=by rw[<-ic,<-wC];exact⟨rfl,rfl⟩
   cases e3 with
   |normal=>
    obtain⟨e4,e5⟩:=qp;have hT:q2.out=some (S3.mask mk):=by rw[S8.1,e5];rfl
    have adO:=Co _ hT
    have iG:Inv C (q1.st ids) ρ3 σ3 zL GD w0 σR (λ_=>False) a3 w3:=by
        have:=Snap.meet_ok2 (x:=q1) (iF.maskR mk)
        rwa [adO] at this
    have iH:=iG.restore (O':=ρ1.put [] [] lo (lo.map ρ3.o)) (a':=aM) (Snap.noOpt _ _) qh (λt ht=>Td t (by
        cases e:aS mk t with
        |false=>rfl
        |true=>
         have h9:=avc (x:=q1) (S:=S3) (ids:=ids) e;rw[adO] at h9;rw[h9] at ht;cases ht)) (λj hj=>SR q1 (fS ..) j hj)
    rcases Tz with⟨tP,O',e6,e7⟩|⟨_,_,id,O',e6⟩
    .rw[e4] at e6;cases e6;exact fin none q1 iH (by rw[hP];exact .inl ⟨by omega,e7,rfl,rfl,rfl⟩) (by simp[tP])
    .rw[e4] at e6;cases e6
   |exit id=>
    obtain⟨e4,e5,e6⟩:=qp;have cY:(id,S3.mask mk)∈q2.ex:=by rw[S8.2];exact bY.2 ⟨_,e6,rfl⟩
    have iH:=(iF.maskR mk).restore (O':=ρ1.put [] [] lo (lo.map ρ3.o)) (a':=aM) (Snap.noOpt _ _) qh (λt ht=>Td t (by
        cases e:aS mk t with
        |false=>rfl
        |true=>rw[G0,if_pos e] at ht;cases ht)) (λj hj=>SR (S3.mask mk) (fw _ (bY.2 ⟨_,cY,rfl⟩)) j hj)
    rcases Tz with⟨tP,O',e7,_⟩|⟨tP,rY,bP,O',e7⟩
    .rw[e4] at e7;cases e7
    .subst tP;refine fin (some (.exit id)) (S3.mask mk) iH ?_ (by simp);rw[hP];refine .inr ⟨rfl,rY,rfl,_,id,ρ3,dM,?_,rfl,cY,.inl ⟨e5,rfl⟩⟩;rw[ab];simp only[PC.ev,nA];rw[vj,e4]
   |ret=>
    obtain⟨e4,e6⟩:=qp;have cY:(cS,S3.mask mk)∈q2.ex:=by rw[S8.2];exact bY.2 ⟨_,e6,rfl⟩
    have iH:=(iF.maskR mk).restore (O':=ρ1.put [] [] lo (lo.map ρ3.o)) (a':=aM) (Snap.noOpt _ _) qh (λt ht=>Td t (by
        cases e:aS mk t with
        |false=>rfl
        |true=>rw[G0,if_pos e] at ht;cases ht)) (λj hj=>SR (S3.mask mk) (fw _ (bY.2 ⟨_,cY,rfl⟩)) j hj)
    rcases Tz with⟨tP,O',e7,_⟩|⟨tP,rY,bP,O',e7⟩
    .rw[e4] at e7;cases e7
    .subst tP;refine fin (some .ret) (S3.mask mk) iH ?_ (by simp);rw[hP];refine .inr ⟨rfl,rY,rfl,_,cS,ρ3,dM,?_,rfl,cY,.inr ⟨rfl,rfl⟩⟩;rw[ab];simp only[PC.ev,nA];rw[vj,e4]
   |_=>exact qp.elim
  |exit id=>obtain⟨_,_,e6⟩:=lg;rw[hax] at e6;cases e6
  |ret=>obtain⟨_,e6⟩:=lg;rw[hax] at e6;cases e6
  |_=>exact lg.elim
 .rintro e' w' ⟨⟨v,rfl⟩,fx,cx,hF⟩;rw[show({tmps:=a.tmps,defers:=[{target:=Target.collected w.heap.size,args:=#[]}]++a.defers}:Act)=aM from R1];obtain⟨i',vo,Sx,st,pe,σa,zM,hva,e1,e2,iA,Ma,FH,LJ,SP,hcA,Gc,Ck⟩:=hF.ex;have h9:=congrArg List.length (congrArg D.l e1);simp only[D.l_list,dG] at h9;have cJ:(rec st pe).state≠.busy:=by
   rw[hP] at e2;rw[jF];rcases e2 with⟨_,_,_,e3,_⟩|⟨_,_,e3,_⟩<;>(rw[e3];intro e;cases e)
  have oY:(rec st pe).pending=pe:=by rw[jF]
  have Sk:(Instr.endLoop L).run C.P w'=.ok pe (w'.putObj L (.loop {rec st pe with state:=.exhausted})):=(run_endLoop (P:=C.P) LJ cJ).trans (congrArg (λz=>Result.ok z _) oY);have iF:=iA.putL (by omega:w0.heap.size<=L) FH (λt' f c hf FY=>((wu _ _ _ _ hf.F).1 L FY).2 rfl) (.loop {rec st pe with state:=.exhausted});rw[<-hσR] at iF;have iG:=i1.ofRnd Sm (λk hk e=>by have:=aq1 k hk;omega) iF;have lh:SameBut wr a aM:=⟨by rw[FJ],λt _=>by rw[FJ]⟩
  refine⟨pe,_,Sk,?_⟩;rw[hP] at e2;rcases e2 with⟨e3,rfl,FI,_,rfl⟩|⟨rfl,rY,_,y,id,O',g1,g2,rfl,g4,g5⟩
  .rcases lU with⟨g1,g2⟩|⟨g1,_⟩
   .obtain rfl:i'=m:=by omega
    rw[FI] at iG;exact⟨_,q1,g2,rfl,lh,_,_,_,iG⟩
   .omega
  .rcases lU with⟨g6,_⟩|⟨_,y',bP,O'',k1,k2,k3⟩
   .omega
   .rw[g1] at k1;cases k1;rw[g2] at k2;cases k2;rcases k3 with⟨k3,k4⟩|⟨k3,pe',k4,k5⟩
    .rcases g5 with⟨_,rfl⟩|⟨g5,_⟩
     .exact wpIn_exit ⟨_,Sx,k4,k3,dH.2 ⟨g4,by simp[fA k3]⟩,lh,_,_,_,iG⟩
     .exact absurd g5 k3
    .rcases g5 with⟨g5,_⟩|⟨_,rfl⟩
     .exact absurd k3 g5
     .subst k3;rw[<-wF,az] at k4;obtain⟨M,hM,Tc⟩:=k4;obtain⟨M',hM',vb⟩:=T7 (⟨_,_,_,iG⟩:Good C w0 σ0 (Sx.st ids) _ (λ_=>False) aM _) q2.ex none g4;rw[hM] at hM';cases hM';obtain⟨σm,aIu,hvm,im⟩:=vb;exact wpIn_ret ⟨_,k5,Inv.retD hC (λ_=>rfl) kG Tc _ im rfl,lh⟩
def afN {arr:Array MapEntry}{clock:Nat}(hb:oa arr clock){idx:List Nat}(hi:∀i,i∈idx->i<arr.size){i:Nat}{e:MapEntry}(he:arr[i]?=some e):(gL arr idx).contains e.born=true↔i∈idx:=by
 simp only[gL,List.contains_toArray,List.contains_iff_mem,bY];constructor
 .rintro⟨j,hj,h⟩;have af:=hi j hj;rw[iV af] at h;simp only at h;have:=hb.2 j i arr[j] e (iV af) he h;rw[<-this];exact hj
 .intro h;exact⟨i,h,by rw[he]⟩
def ax2 (arr:Array MapEntry)(idx:List Nat){i:Nat}{e:MapEntry}(he:arr[i]?=some e):(gL arr idx).push e.born=gL arr (idx++[i]):=by
 simp[gL,he]
def avi {P:Program}{w:World}{k m:Nat}{arr:Array MapEntry}{clock:Nat}{idx:List Nat}(hk:w.heap[k]?=some (.mapIter (some m) clock (gL arr idx) clock))(hm:w.heap[m]?=some (.map arr clock))(hb:oa arr clock)(hi:∀i,i∈idx->i<arr.size)(T:TypeId):
 ∃w1:World,(w1=w\/w1=w.drew)/\(((∀i,i<arr.size->i∈idx)/\(Instr.next (.pointer (some ⟨k,0,none⟩)) false T).run P w=.ok (.tuple #[.bool false]) w1)\/
  ∃i e,arr[i]?=some e/\i∉idx/\(Instr.next (.pointer (some ⟨k,0,none⟩)) false T).run P w=.ok (.tuple #[.bool true,e.key,e.val]) {w1 with heap:=w1.heap.setIfInBounds k (.mapIter (some m) clock (gL arr (idx++[i])) clock)}):=by
 have cY:∀{e:MapEntry},e∈arr->∃i:Nat,arr[i]?=some e:=λhe=>by
  obtain⟨i,hi,rfl⟩:=Array.mem_iff_getElem.1 he;exact⟨i,iV hi⟩
 have hold:∀(l:Array MapEntry),(∀e,e∈l->e.born<clock)->l.filter (λx=>decide (x.born<clock))=l:=λl h=>by
  rw[Array.filter_eq_self];intro e he;simpa using h e he
 have mC:∀(l:Array MapEntry),(∀e,e∈l->e.born<clock)->l.filter (λx=>decide (x.born>=clock))=#[]:=λl h=>by
  rw[Array.filter_eq_empty_iff];intro e he;have:=h e he;simp;omega
 have R8:∀e,e∈arr->e.born<clock:=λe he=>by obtain⟨i,hi⟩:=cY he;exact hb.1 i e hi
 have jV:(!(gL arr idx).isEmpty&& !arr.isEmpty&&arr.all (λx=>decide (x.born>=clock)))=false:=by
  cases ha:arr.isEmpty
  .have au:arr.size≠0:=by simpa using ha
   have:arr.all (λx=>decide (x.born>=clock))=false:=by
        rw[aaD];intro h;rw[Array.all_eq_true] at h;have h0:=h 0 (by omega);have h1:=R8 arr[0] (aaA _);simp at h0;omega
   rw[this,Ay]
  .simp
 let left:=arr.filter λe=> !(gL arr idx).contains e.born
 have hl:∀e,e∈left->e.born<clock:=λe he=>R8 e (aaB.1 he).1;by_cases hz:left.size=0
 .refine⟨w,.inl rfl,.inl ⟨λi af=>?_,?_⟩⟩
  .by_cases bO:i∈idx
   .exact bO
   .exfalso;have Mb:arr[i]∈left:=aaB.2 ⟨aaA _,by
     have:=afN hb hi (iV af);cases hc:(gL arr idx).contains arr[i].born with
     |false=>rfl
     |true=>exact absurd (this.1 hc) bO⟩
    have:left=#[]:=Pn hz;rw[this] at Mb;simp at Mb
  .have he:left=#[]:=Pn hz;have rS:arr.filter (λe=> !(gL arr idx).contains e.born)=#[]:=he;simp only[Instr.next,getObj,Sem.run_bind,Sem.run,hk,hm,Result.andThen_ok,jV,rS];simp[Question.forced,Sem.run]
 .have rT:left.filter (λx=>decide (x.born<clock))=left:=hold left hl;have FW:left.filter (λx=>decide (x.born>=clock))=#[]:=mC left hl;have hem:left.isEmpty=false:=by simpa using hz
  have key:∀c,c<left.size->∃i e,arr[i]?=some e/\i∉idx/\left[c]?=some e:=λc hc=>by
   have Mb:left[c]∈left:=aaA _;obtain⟨h1,h2⟩:=aaB.1 Mb;obtain⟨i,dg⟩:=cY h1;refine⟨i,left[c],dg,λbO=>?_,iV hc⟩;rw[(afN hb hi dg).2 bO] at h2;cases h2
  obtain⟨w1,c,jo,hc,lb⟩:∃w1 c,(w1=w\/w1=w.drew)/\c<left.size/\(choose (.mapNext left.size)).run P w=.ok c w1:=by
   by_cases h1:left.size<=1
   .exact⟨w,0,.inl rfl,by omega,by simp[Question.forced,h1]⟩
   .exact⟨w.drew,_,.inr rfl,rj _ (by omega),by simp[Question.forced,h1,Question.cut];rfl⟩
  obtain⟨i,e,h1,h2,h3⟩:=key c hc;refine⟨w1,jo,.inr ⟨i,e,h1,h2,?_⟩⟩;have y3:arr.filter (λe=> !(gL arr idx).contains e.born)=left:=rfl;have jY:(getObj k).run P w=.ok (.mapIter (some m) clock (gL arr idx) clock) w:=by simp[getObj,Sem.run,hk]
  have iL:(getObj m).run P w=.ok (.map arr clock) w:=by simp[getObj,Sem.run,hm]
  have bG:w1.heap[k]?=some (.mapIter (some m) clock (gL arr idx) clock):=by rcases jo with rfl|rfl<;>exact hk
  have hg3:(setObj k (.mapIter (some m) clock ((gL arr idx).push e.born) clock)).run P w1=.ok () {w1 with heap:=w1.heap.setIfInBounds k (.mapIter (some m) clock ((gL arr idx).push e.born) clock)}:=by simp[setObj,Sem.run,bG]
  have aqB:((if false=true then #[none] else #[])++Array.map some (left++#[]):Array (Option MapEntry))=left.map some:=by simp
  have jC:(left.map some)[c]?=some (some e):=by simp[h3]
  have adR:∀(ES:Array (Option MapEntry)) (cc:Nat),(choose (.mapNext ES.size)).run P w=.ok cc w1->ES[cc]?=some (some e)->(do
        match ES[<-choose (.mapNext ES.size)]? with
        |some (some e)=>
         setObj k (.mapIter (some m) clock ((gL arr idx).push e.born) clock)
         pure (.tuple #[.bool true,e.key,e.val])
        |some none=>(pure (.tuple #[.bool false]):Sem Value)
        |none=>stuck "Next: no such candidate" :Sem Value).run P w=.ok (.tuple #[.bool true,e.key,e.val]) {w1 with heap:=w1.heap.setIfInBounds k (.mapIter (some m) clock ((gL arr idx).push e.born) clock)}:=by
   intro ES cc h4 h5;rw[Sem.run_bind,h4];simp only[Result.andThen_ok,h5];rw[Sem.run_bind,hg3];rfl
  rw[ax2 arr idx h1] at adR hg3;have:=adR (left.map some) c (by rw[Array.size_map];exact lb) jC;simp only[Instr.next];rw[Sem.run_bind,jY];simp only[Result.andThen_ok];rw[Sem.run_bind,iL];simp only[Result.andThen_ok,jV,y3,rT,FW,hem];rw[aqB,if_neg (by decide)];exact this
def aof {P:Program}{w:World}{k m:Nat}{arr:Array MapEntry}{clock:Nat}{idx:List Nat}{i:Nat}{e:MapEntry}(hk:w.heap[k]?=some (.mapIter (some m) clock (gL arr (idx++[i])) clock))(hm:w.heap[m]?=some (.map arr clock))(hb:oa arr clock)(he:arr[i]?=some e):
 (Instr.entry (.pointer (some ⟨k,0,none⟩))).run P w=.ok (.tuple #[e.key,e.val]) w:=by
 have aqy:(gL arr (idx++[i])).back?=some e.born:=by simp[gL,he]
 have F1:arr.find? (λx=>x.born==e.born)=some e:=by
  have af:i<arr.size:=(eA.1 he).1;have hei:arr[i]=e:=(eA.1 he).2;rw[Array.find?_eq_some_iff_getElem];refine⟨by simp,i,af,hei,λj hj=>?_⟩;have hZ:j<arr.size:=by omega
  cases hc:(arr[j].born==e.born) with
  |false=>rfl
  |true=>
   have:=hb.2 j i arr[j] e (iV hZ) he (by simpa using hc);omega
 simp[Instr.entry,getObj,Sem.run_bind,Sem.run,hk,hm,aqy,F1]
def au5 {x y z:Code}{k:Nat}{p:MP}(h:CT x y k z=some p):∃i1 i2 o1 o2 o3 l,x=.region i1 p.ops1 false/\y=.cond (.tmp p.mo) .skip (.exit p.out)/\z=.region i2 p.ops2 false/\p.next=k/\p.ops1.toList=[o1,o2]/\p.ops2.toList=o3::l/\
 o1.dst=some p.nx/\o1.guard=none/\o1.op=.next (.tmp p.it) false/\o2.dst=some p.mo/\o2.guard=none/\o2.op=.extract (.tmp p.nx) 0/\o3.dst=some p.pr/\o3.guard=none/\o3.op=.entry (.tmp p.it)/\mc p.pr l []=some p.aa/\
 p.it≠p.nx/\p.it≠p.mo/\p.it≠p.pr/\p.nx≠p.mo/\p.out≠cS/\k≠cS:=by
 unfold CT at h;split at h
 case h_2=>cases h
 rename_i i1 ops1 mo out i2 ops2;split at h
 case h_2=>cases h
 rename_i o1 o2 o3 l e1 e2;split at h
 case h_2=>cases h
 rename_i nx it mo' nx' pr it' d1 g1 q1 d2 g2 q2 d3 g3 q3;rw[q9] at h;split at h
 case isFalse=>cases h
 rename_i hc;simp only[aB] at h;obtain⟨aa,h4,rfl⟩:=h;simp only[ao,kT] at hc;obtain⟨⟨⟨⟨⟨⟨⟨⟨c1,c2⟩,c3⟩,c4⟩,c5⟩,c6⟩,c7⟩,c8⟩,c9⟩:=hc;have ne:∀{a b:Nat},Nat.beq a b=false->a≠b:=λh e=>by subst e;simp at h
 obtain rfl:=ay c1;obtain rfl:=ay c2;obtain rfl:=ay c3;exact⟨i1,i2,o1,o2,o3,l,rfl,rfl,rfl,rfl,e1,e2,d1,g1,q1,d2,g2,q2,d3,g3,q3,h4,ne c4,ne c5,ne c6,ne c7,ne c8,ne c9⟩
def Ns {pr:Nat}:∀(l:List Oper) {acc aa:List (Nat×Nat)},mc pr l acc=some aa->∀x,x∈acc->x∈aa
 |[],acc,aa,h,x,hx=>by simp only[mc,ba] at h;subst h;exact hx
 |o::l,acc,aa,h,x,hx=>by
  simp only[mc] at h;split at h
  case h_2=>cases h
  rw[q9] at h;split at h
  .cases h
  split at h
  .rw[q9] at h;split at h
   .exact Ns l h x (jx _ hx)
   .cases h
  .simp only[az] at h;obtain⟨i,_,h⟩:=h;exact Ns l h x (jx _ hx)
  .simp only[az] at h;obtain⟨i,_,h⟩:=h;exact Ns l h x (jx _ hx)
  .cases h
def GX:∀{l:List (Nat×Nat)} {t i:Nat},wZ l t=some i->(t,i)∈l
 |x::l,t,i,h=>by
  simp only[wZ] at h;cases hb:Nat.beq x.1 t<;>simp only[hb,zyy,zyx] at h
  .exact fw _ (GX h)
  .cases h;have:=ay hb;subst this;exact fS ..
def afF:∀{l:List (Nat×Nat)} {t:Nat},(wZ l t).isSome=false->∀x,x∈l->x.1≠t
 |y::l,t,h,x,hx=>by
  simp only[wZ] at h;cases hb:Nat.beq y.1 t<;>simp only[hb,zyy,zyx] at h
  .rcases cD.1 hx with e|hx
   .subst e;intro e;subst e;simp at hb
   .exact afF h x hx
  .cases h
def Vm {pr:Nat}:∀(l:List Oper) {acc aa:List (Nat×Nat)},mc pr l acc=some aa->(∀x,x∈acc->x.2<=1)->∀x,x∈aa->x∈acc\/(x.2<=1/\∃o,o∈l/\o.dst=some x.1)
 |[],acc,aa,h,_,x,hx=>by simp only[mc,ba] at h;subst h;exact .inl hx
 |o::l,acc,aa,h,ha,x,hx=>by
  simp only[mc] at h;split at h
  case h_2=>cases h
  rename_i d hd oT;rw[q9] at h;split at h
  .cases h
  have go:∀(pt:Nat),pt<=1->mc pr l (acc++[(d,pt)])=some aa->x∈acc\/(x.2<=1/\∃o',o'∈o::l/\o'.dst=some x.1):=by
   intro pt wE hp
   rcases Vm l hp (λy hy=>by
        rcases dO.1 hy with h|h
        .exact ha y h
        .simp at h;subst h;exact wE) x hx with h|⟨h1,o',h2,h3⟩
   .rcases dO.1 h with h|h
    .exact .inl h
    .simp at h;subst h;exact .inr ⟨wE,o,fS ..,hd⟩
   .exact .inr ⟨h1,o',fw _ h2,h3⟩
  split at h
  .rw[q9] at h;split at h
   case isFalse=>cases h
   rename_i jC;simp only[ao] at jC;exact go _ (jP jC.2) h
  .simp only[az] at h;obtain⟨i,hi,h⟩:=h;exact go i (ha _ (GX hi)) h
  .simp only[az] at h;obtain⟨i,hi,h⟩:=h;exact go i (ha _ (GX hi)) h
  .cases h
def C4 {P:Program}{ops:Array Oper}{i:Nat}{rest:List Nat}{o:Oper}{rd:Option Nat}{a:Act}{w w':World}{Q:Exit->Act->World->Prop}{v:Value}(ho:ops[i]?=some o)(hg:o.guard=none)(bp:uc o.op=true)(hx:(execOp a.eval o).run P w=.ok (.value v) w')
 (k:wpOpsIn (FR rd) 0 P ops Q rest (a.put o.dst v) w'):wpOpsIn (FR rd) 0 P ops Q (i::rest) a w:=by
 simp only[wpOpsIn,ho];rw[if_pos (by simp[Region.wanted,hg])];exact ahW bp (by unfold Oper.wp;rw[hx];exact k)
def axU {ops:Array Oper}{o:Oper}(ho:o∈ops.toList)(a:Act)(v:Value):SameBut (BW ops) a (a.put o.dst v):=by
 have:=SameBut.put a o.dst v a.defers;exact this.mono λt e=>⟨o,ho,e⟩
def Dc {a:Act}{d:Nat}{v:Value}(h:d<a.tmps.size):(a.put (some d) v).tmps.getD d undef=v:=by rw[An];simp[h]
def NB {a:Act}{d t:Nat}{v:Value}(h:t≠d):(a.put (some d) v).tmps.getD t undef=a.tmps.getD t undef:=by rw[An];simp[h]
def put_defers (a:Act)(d:Option Nat)(v:Value):(a.put d v).defers=a.defers:=by cases d<;>rfl
def Ha (kv vv:Value)(i:Nat):Value:=if i=0 then kv else vv
def ah6 {P:Program}{ops:Array Oper}{rd:Option Nat}{Q:Exit->Act->World->Prop}{pr:Nat}{kv vv:Value}{w:World}:∀(l:List Oper) (acc aa:List (Nat×Nat)) (i:Nat) (a:Act),mc pr l acc=some aa->ops.toList.drop i=l->(∀x,x∈aa->x.1<a.tmps.size)->a.tmps.getD pr undef=.tuple #[kv,vv]->
 (∀x,x∈acc->a.tmps.getD x.1 undef=Ha kv vv x.2)->(∀a',SameBut (BW ops) a a'->a'.defers=a.defers->(∀x,x∈aa->a'.tmps.getD x.1 undef=Ha kv vv x.2)->Q .normal a' w)->wpOpsIn (FR rd) 0 P ops Q (List.range' i (ops.size-i)) a w
 |[],acc,aa,i,a,h,hl,af,se,FK,hQ=>by
  simp only[mc,ba] at h;subst h;have:ops.size-i=0:=by
    have:=aaO.1 hl;simp at this;omega
  rw[this];exact hQ a (.refl _ _) rfl FK
 |o::l,acc,aa,i,a,h,hl,af,se,FK,hQ=>by
  have hi:i<ops.toList.length:=by
   refine aa4 λhle=>?_;rw[aaO.2 hle] at hl;cases hl
  rw[akY hi] at hl;have ho:ops[i]?=some o:=by
   have:ops.toList[i]=o:=by injection hl
   rw[<-this];simp at hi ⊢
  have qk:ops.toList.drop (i+1)=l:=by injection hl
  have aI:ops.size-i=(ops.size-(i+1))+1:=by simp at hi;omega
  rw[aI,PF];have cY:o∈ops.toList:=by simpa using q8 ho
  simp only[mc] at h;split at h
  case h_2=>cases h
  rename_i d hd oT;rw[q9] at h;split at h
  .cases h
  rename_i hc;simp only[kj,not_or,Bool.not_eq_true] at hc;have hdp:pr≠d:=λe=>by subst e;simp at hc
  have Sf:∀x,x∈acc->x.1≠d:=afF hc.2;have go:∀(pt:Nat) (v:Value),mc pr l (acc++[(d,pt)])=some aa->uc o.op=true->v=Ha kv vv pt->(execOp a.eval o).run P w=.ok (.value v) w->wpOpsIn (FR rd) 0 P ops Q (i::List.range' (i+1) (ops.size-(i+1))) a w:=by
   intro pt v hp bp hv hx;have FU:d<a.tmps.size:=af _ (Ns l hp (d,pt) (by simp));refine C4 ho oT bp hx ?_;have lh:=axU cY a v;rw[hd] at lh ⊢;refine ah6 l _ aa (i+1) _ hp qk (λx hx=>by rw[lh.size];exact af x hx) (by rw[NB hdp];exact se) (λx hx=>?_) (λa' h1 h2 h3=>hQ a' (lh.trans h1) (h2.trans (put_defers _ _ _)) h3);rcases dO.1 hx with hx|hx
   .rw[NB (Sf x hx)];exact FK x hx
   .simp at hx;subst hx;rw[Dc FU];exact hv
  split at h
  .rename_i t pt e;rw[q9] at h;split at h
   case isFalse=>cases h
   rename_i jC;simp only[ao] at jC;have ht:=ay jC.1;have wE:=jP jC.2;subst ht;have bM:a.eval (.tmp t)=.tuple #[kv,vv]:=by simpa [Act.eval] using se
   refine go pt (Ha kv vv pt) h (by rw[e];rfl) rfl ?_;rcases(by omega:pt=0\/pt=1) with rfl|rfl<;>simp[execOp,e,bM,Instr.extract,Ha]
  .rename_i t e;simp only[az] at h;obtain⟨pt,y3,h⟩:=h;have:=FK _ (GX y3);exact go pt (a.eval (.tmp t)) h (by rw[e];rfl) (by simpa [Act.eval] using this) (by simp[execOp,e])
  .rename_i t e;simp only[az] at h;obtain⟨pt,y3,h⟩:=h;have:=FK _ (GX y3);exact go pt (a.eval (.tmp t)) h (by rw[e];rfl) (by simpa [Act.eval] using this) (by simp[execOp,e])
  .cases h
def TO (ids:List Nat)(J j:Nat)(S:Snap):((S.kill ids J).st ids).o j=if j=J then .dead else(S.st ids).o j:=by
 show dw ids (zq ids J S.os) j=_;have:∀(is:List Nat) (os:List Ob),dw is (zq is J os) j=if j=J then .dead else dw is os j:=by
  intro is
  induction is with
  |nil=>intro os;simp[zq,dw]
  |cons i is ih=>
   intro os;cases os with
   |nil=>simp[zq,dw]
   |cons o os=>
    simp only[zq,dw];cases hb:Nat.beq i j
    .simp only[zyx];exact ih os
    .have:=ay hb;subst this;simp only[zyy];by_cases dK:i=J
     .subst dK;simp
     .simp[fA dK,dK]
 exact this ids S.os
def abC {N:Nat}{id:Nat}(L4:id≠cS){rm:Bool}{wr:Nat->Prop}{a:Act}{q:Res2}{x xi:Out}(tR:(∀t,t∈q.pc.modR->aS q.mr t=true)/\∀j,j∈q.pc.modO->j∈q.mo)(dM:q.pc.ev Z N O=some xi)(bM:(gV ids id q).pc.ev Z N O=some x){e:Exit}{a':Act}{w':World}
 (fZ:iI C w0 σ0 ids fn s rm wr a q.out q.ex xi e a' w'):Exit.inBlock id (iI C w0 σ0 ids fn s rm wr a (gV ids id q).out (gV ids id q).ex x) e a' w':=by
 have F0:∀bP S1,(bP,S1)∈q.ex->bP≠id->(bP,S1)∈q.ex.filter λx=> !Nat.beq x.1 id:=λbP S1 hm au=>dH.2 ⟨hm,by simp[fA au]⟩;have main:∀(o:Option Snap) (lr lo:List Nat),qC id q.ex q.out=o->(∀M,o=some M->lr=lx M q.mr/\lo=j3 ids M q.mo)->(PC.block id lr lo q.pc).ev Z N O=some x->
        Exit.inBlock id (iI C w0 σ0 ids fn s rm wr a o (q.ex.filter λx=> !Nat.beq x.1 id) x) e a' w':=by
  intro o lr lo ho hl bM;simp only[PC.ev] at bM;rw[dM] at bM
  have fin:∀{ρ1:Env} {a':Act} {w':World},(∃M,o=some M/\Good C w0 σ0 (M.st ids) ρ1 (λ_=>False) a' w')->xi.env?=some ρ1->x=.next (O.join lr lo ρ1)->SameBut wr a a'->
   iI C w0 σ0 ids fn s rm wr a o (q.ex.filter λx=> !Nat.beq x.1 id) x .normal a' w':=by
        intro ρ1 a' w' hM yU hx dU;obtain⟨M,hM,vb⟩:=hM;obtain⟨l1,l2⟩:=hl M hM;subst l1 l2;exact⟨_,M,hx,hM,dU,vb.joined (PC.ev_but q.pc O _ ρ1 dM yU) tR.1 tR.2⟩
  cases e with
  |normal=>
   obtain⟨ρ1,S2,e1,e2,dU,iL⟩:=fZ;subst e1;simp only[ba] at bM;refine fin ?_ rfl bM.symm dU;rw[e2] at ho;obtain⟨M,h1,h2⟩:=MS (id:=id) q.ex iL;rw[ho] at h1;exact⟨M,h1,h2⟩
  |exit bP=>
   obtain⟨ρ1,S2,e1,e0,e2,dU,iL⟩:=fZ;subst e1;simp only at bM;show if bP=id then _ else _;by_cases cN:bP=id
   .subst cN;simp only[kr,zyy,ba] at bM;simp only[if_true];refine fin ?_ rfl bM.symm dU;rw[<-ho];exact T7 iL q.ex q.out e2
   .simp only[fA cN,zyx,ba] at bM;subst bM;simp only[cN,if_false];exact⟨ρ1,S2,rfl,e0,F0 _ _ e2 cN,dU,iL⟩
  |ret=>
   cases rm with
   |false=>
    have hy:=fZ;obtain⟨d,e1,_⟩:=hy;subst e1;simp only[ba] at bM;subst bM;exact fZ
   |true=>
    obtain⟨ρ1,S2,e1,e2,dU,iL⟩:=fZ;subst e1;simp only[fA (λe=>L4 e.symm:cS≠id),zyx,ba] at bM;subst bM;exact⟨ρ1,S2,rfl,F0 _ _ e2 (λe=>L4 e.symm),dU,iL⟩
  |_=>exact fZ.elim
 unfold gV at bM ⊢;cases hm:qC id q.ex q.out with
 |none=>
  simp only[hm] at bM ⊢;exact main none [] [] hm (λM e=>by cases e) bM
 |some M=>
  simp only[hm] at bM ⊢;exact main (some M) _ _ hm (λM' e=>by cases e;exact⟨rfl,rfl⟩) bM
def abA {N id:Nat}{q:Res2}{x:Out}(bM:(gV ids id q).pc.ev Z N O=some x):∃xi,q.pc.ev Z N O=some xi:=by
 unfold gV at bM;cases hm:qC id q.ex q.out<;>simp only[hm,PC.ev] at bM<;>cases dM:q.pc.ev Z N O<;>first|exact⟨_,rfl⟩|(rw[dM] at bM;cases bM)
def ajJ {es:List (D×D)}{idx:List Nat}(hn:idx.Nodup)(af:∀i,i∈idx->i<es.length)(aK:∀i,i<es.length->i∈idx):(iv es idx).Perm (ju (.map es)):=by
 have h1:idx.Perm (List.range es.length):=by
  rw[List.perm_ext_iff_of_nodup hn aaZ];intro i;rw[fy];exact⟨af i,aK i⟩
 have h2:iv es (List.range es.length)=ju (.map es):=by
  refine Pw (by simp[iv,ju,D.m]) λi g1 g2=>?_;have hi:i<es.length:=by simpa [iv] using g1
  simp[iv,ju,D.m,aX hi]
 rw[<-h2];exact h1.map _
def ax3 {es:List (D×D)}{idx:List Nat}(hn:idx.Nodup)(af:∀i,i∈idx->i<es.length):∃rest,(iv es idx++rest).Perm (ju (.map es)):=by
 refine⟨iv es ((List.range es.length).filter λi=> !idx.contains i),?_⟩;have e:iv es idx++iv es ((List.range es.length).filter λi=> !idx.contains i)=iv es (idx++(List.range es.length).filter λi=> !idx.contains i):=by simp[iv]
 rw[e];refine ajJ ?_ (λi hi=>?_) (λi hi=>?_)
 .rw[Jm];refine⟨hn,aaZ.filter _,λa ha b hb e=>?_⟩;subst e;have:=(dH.1 hb).2;simp[ha] at this
 .rcases dO.1 hi with h|h
  .exact af i h
  .exact fy.1 (dH.1 h).1
 .by_cases h:i∈idx
  .exact jx _ h
  .exact jO _ (dH.2 ⟨fy.2 hi,by simp[h]⟩)
def ajK (es:List (D×D))(idx:List Nat){i:Nat}{p:D×D}(h:es[i]?=some p):iv es (idx++[i])=iv es idx++[.tup [p.1,p.2]]:=by simp[iv,h]
def au7 {N:Nat}{x y z code:Code}{k:Nat}{p:MP}(hp:CT x y k z=some p)(ihc:yg C Z fn s n ids R N code){rm:Bool}{S:Snap}{r:Res2}
 (hr:CU ids n p (cG x++(cG y++(cG z++cG code))) (λS=>comp C fn s n ids R rm code S) S=some r) {rd:Option Nat} {wr:Nat->Prop} {x0:Out} (gD:rm=false->rd=none/\σ0.fin) (hC:CtxOK C σ0) (hY:uJ C Z w0 σ0)
 (gG:∀t,t∈cG (.loop (.seq x (.seq y (.block k (.seq z code)))))->wr t) (hn:a.tmps.size=n) (hg:Good C w0 σ0 (S.st ids) O (λ_=>False) a w) (he:r.pc.ev Z N O=some x0):
 (Code.loop (.seq x (.seq y (.block k (.seq z code))))).wpIn (FR rd) 0 C.P (iI C w0 σ0 ids fn s rm wr a r.out r.ex x0) a w:=by
 obtain⟨i1,i2,o1,o2,o3,l,rfl,rfl,rfl,hk,e1,e2,d1,g1,q1,d2,g2,q2,d3,g3,q3,oZ,n1,n2,n3,n4,n5,n6⟩:=au5 hp;subst hk;unfold CU at hr;split at hr
 case h_2=>cases hr;exact absurd he (nT _ _ _ _)
 rename_i J hJ;split at hr
 case h_2=>cases hr;exact absurd he (nT _ _ _ _)
 rename_i kt et L8;simp only at hr;split at hr
 case h_2=>cases hr;exact absurd he (nT _ _ _ _)
 rename_i q hq;rw[q9] at hr;split at hr
 case isFalse=>cases hr;exact absurd he (nT _ _ _ _)
 rename_i yS;cases hr;generalize Mt:cG (.region i1 p.ops1 false)++(cG (.cond (.tmp p.mo) .skip (.exit p.out))++(cG (.region i2 p.ops2 false)++cG code))=ws at*;simp only[ao,kT] at yS;obtain⟨⟨⟨⟨⟨⟨⟨⟨c1,c2⟩,c3⟩,c4⟩,c5⟩,c6⟩,c7⟩,c8⟩,c9⟩:=yS;have hex:q.2.ex=[]:=aaV.1 c1;have adf:J∉q.2.mo:=λh=>by rw[(sv _ _).2 h] at c2;cases c2
 simp only[ae5,ao,kT] at c3;obtain⟨⟨c3a,c3b⟩,c3c⟩:=c3;have asg:q.1.rs.getD p.it .none=.obj J 0:=Sh.beq_eq _ _ c3a;have Mg:dw ids q.1.os J=.it kt et:=Ob.beq_eq _ _ c3b;have ar9:∀t,t∈p.aa.map (·.1)->t<n:=λt ht=>by have:=cQ.1 c5 t ht;rwa [pU] at this
 have SO:p.nx<n:=by rwa [pU] at c6
 have Gd:p.mo<n:=by rwa [pU] at c7
 have se:p.pr<n:=by rwa [pU] at c8
 have Gf:=ay c9;obtain⟨hs,Co,bO⟩:=GQ (C:=C) (w0:=w0) (σ0:=σ0) (ids:=ids) 8 hq;simp only[aB] at hs;obtain⟨q0,tU,ic⟩:=hs;obtain⟨qS,qR⟩:=q;simp only at*;subst ic;generalize hm:zA ws=m at*;generalize qm:j3 ids qS (gV ids p.next q0).mo=lo at*;have SG:=abB (ids:=ids) (id:=p.next) (v7 code tU);have arA:∀j,j∈lo->j∈(gV ids p.next q0).mo:=λj hj=>by rw[<-qm] at hj;exact CV hj
 have aGG:J∉lo:=λh=>adf (arA J h);have Gt:∃D2,Nv ((gV ids p.next q0).pc.ev Z N) O J (p.aa.map (·.1)) (p.aa.map (·.2)) lo D2/\x0=.exit p.out (O.put [] [] lo D2):=by
  simp only[PC.ev] at he;cases se:Nw ((gV ids p.next q0).pc.ev Z N) O J (p.aa.map (·.1)) (p.aa.map (·.2)) lo with
  |none=>rw[se] at he;cases he
  |some y=>
   obtain⟨D2,h1,rfl⟩:=C9.1 se;rw[se] at he;simp only[ba] at he;exact⟨D2,h1,he.symm⟩
 obtain⟨D2,⟨Gn,aqp⟩,hx0⟩:=Gt;generalize jX:(O.o J).tget 1=es at*
 have jo:∀o,o∈p.ops1.toList->∀d,o.dst=some d->d∈ws:=λo ho d hd=>by
  rw[<-Mt];exact jx _ (AK.2 ⟨o,ho,hd⟩)
 have db:∀o,o∈p.ops2.toList->∀d,o.dst=some d->d∈ws:=λo ho d hd=>by
  rw[<-Mt];exact jO _ (jO _ (jx _ (AK.2 ⟨o,ho,hd⟩)))
 have hwc:∀d,d∈cG code->d∈ws:=λd hd=>by
  rw[<-Mt];exact jO _ (jO _ (jO _ hd))
 have Tw:∀t,t∈ws->wr t:=λt ht=>gG t (by rw[<-Mt] at ht;exact ht);have vi:∀t,t∈ws->aS m t=true:=λt ht=>by rw[<-hm];exact aby ht
 have SD:∀t,aS m t=true->((qS.mask m).st ids).r t=.none:=λt ht=>by rw[G0,if_pos ht]
 have arH:∀t,isNone (((qS.mask m).st ids).r t)=false->aS m t=false:=λt ht=>by
  cases hb:aS m t with
  |false=>rfl
  |true=>rw[SD t hb] at ht;cases ht
 have jZ:((qS.mask m).st ids).r p.it=.obj J 0:=by
  rw[G0,c3c];show cL (qS.rs.getD p.it .none)=_;rw[asg];rfl
 have cU:((qS.mask m).st ids).o J=.it kt et:=Mg;have kI:p.ops1[0]?=some o1:=by rw[<-pO,e1];rfl
 have fJ:p.ops1[1]?=some o2:=by rw[<-pO,e1];rfl
 have ho3:p.ops2[0]?=some o3:=by rw[<-pO,e2];rfl
 have asD:List.range p.ops1.size=[0,1]:=by
  have:p.ops1.size=2:=by rw[<-Ax,e1];rfl
  rw[this];rfl
 have wK:List.range p.ops2.size=0::List.range' 1 (p.ops2.size-1):=by
  have:p.ops2.size=l.length+1:=by rw[<-Ax,e2];rfl
  rw[this,PG,PF];rfl
 have key:∀(kk:Nat) (done vo:List D) (a':Act) (w':World),SameBut wr a a'->Good C w0 σ0 ((qS.mask m).st ids) ((O.put [] [] lo vo).setO J (.tup [.list done,es])) (λ_=>False) a' w'->
  (∀ys,(done++ys).Perm (ju es)->qH ((gV ids p.next q0).pc.ev Z N) O J es (p.aa.map (·.1)) (p.aa.map (·.2)) lo ys done vo=some D2)->done.length+kk=(ju es).length+1->
  Code.roundsIn (FR rd) 0 C.P (.seq (.region i1 p.ops1 false) (.seq (.cond (.tmp p.mo) .skip (.exit p.out)) (.block p.next (.seq (.region i2 p.ops2 false) code)))) (iI C w0 σ0 ids fn s rm wr a none [(p.out,(qS.mask m).kill ids J)] x0) kk a' w':=by
  intro kk
  induction kk with
  |zero=>
   intro done vo a' w' _ lT _ hlen;exfalso;obtain⟨V,own,hv,h⟩:=lT;have bn:=h.objs J;rw[cU] at bn;obtain⟨kb,mb,arr,clock,fW,idx,h1,h2,h3,au,h4,h5,h6,h7,h8,h9,jA,uX⟩:=bn;simp only[Env.setO,aN] at h6;injection h6 with h6;injection h6 with yM yN;injection yN with yN _;injection yM with yM;subst yM;subst yN;have hle:idx.length<=arr.size:=by
        have:=List.Nodup.length_le_of_subset h7 (l₂:=List.range arr.size) (λi hi=>fy.2 (h8 i hi));simpa using this
   simp[iv,ju,D.m] at hlen;omega
  |succ kk ih=>
   intro done vo a' w' lh lT aK hlen;rw[roundsIn_succ];obtain⟨V,own,hv,h⟩:=lT;have bn:=h.objs J;rw[cU] at bn;obtain⟨kb,mb,arr,clock,fW,idx,h1,h2,h3,au,h4,h5,h6,h7,h8,h9,jA,uX⟩:=bn;simp only[Env.setO,aN] at h6;injection h6 with h6;injection h6 with yM yN;injection yN with yN _;injection yM with yM;subst yM;subst yN;have gC:=h.regs p.it;rw[jZ] at gC;have L5:a'.eval (.tmp p.it)=.pointer (some ⟨kb,0,none⟩):=by
        have:=gC.2 rfl;simp only[Act.eval];rw[this];exact h1
   have wJ:a'.tmps.size=n:=lh.size.trans hn;obtain⟨w1,aeL,Mf⟩:=avi (P:=C.P) h5 h4 jA h8 o1.type;have GH:Below w'.heap.size w' w1:=by rcases aeL with rfl|rfl;exact .refl _ _;exact⟨rfl,rfl,rfl,aZ _,λ_ _=>rfl⟩
   have CI:w1.heap=w'.heap:=by rcases aeL with rfl|rfl<;>rfl
   have hkl:kb<w'.heap.size:=(h.owns kb J h2).2.1;have rY:mb<w'.heap.size:=(h.owns mb J h3).2.1;refine wpIn_seq (wpIn_region ?_);rw[asD];rcases Mf with⟨Sn,ak⟩|⟨i,e,vd,yX,ak⟩
   ·
        refine C4 kI g1 (by rw[q1];rfl) (v:=.tuple #[.bool false]) (w':=w1) (by simp only[execOp,q1,L5];simp[ak]) ?_;rw[d1]
        refine C4 fJ g2 (by rw[q2];rfl) (v:=.bool false) (w':=w1) (by
         have:(a'.put (some p.nx) (.tuple #[.bool false])).eval (.tmp p.nx)=.tuple #[.bool false]:=by simp only[Act.eval];exact Dc (by omega)
         simp only[execOp,q2,this];simp[Instr.extract]) ?_
        rw[d2];simp only[wpOpsIn]
        have zd:SameBut (λt=>t∈ws) a' ((a'.put (some p.nx) (.tuple #[.bool false])).put (some p.mo) (.bool false)):=by
         have s1:=SameBut.put a' (some p.nx) (.tuple #[.bool false]) a'.defers;have s2:=SameBut.put (a'.put (some p.nx) (.tuple #[.bool false])) (some p.mo) (.bool false) (a'.put (some p.nx) (.tuple #[.bool false])).defers;exact(s1.mono λt e=>by cases e;exact jo o1 (by rw[e1];simp) _ d1).trans (s2.mono λt e=>by cases e;exact jo o2 (by rw[e1];simp) _ d2)
        generalize yP:(a'.put (some p.nx) (.tuple #[.bool false])).put (some p.mo) (.bool false)=a1 at zd;have SF:a1.eval (.tmp p.mo)=.bool false:=by
         rw[<-yP];simp only[Act.eval];exact Dc (by rw[size_put];omega)
        have qh:a1.defers=a'.defers:=by rw[<-yP,put_defers,put_defers]
        refine wpIn_seq (wpIn_cond_false SF (wpIn_exit ?_));have y8:(iv fW idx++[]).Perm (ju (.map fW)):=by
         rw[vM];exact ajJ h7 (λi hi=>by rw[h9];exact h8 i hi) (λi hi=>Sn i (by omega))
        have aeK:=aK [] y8;simp only[qH,ba] at aeK;subst aeK;refine⟨_,_,hx0,n5,AM.2 rfl,lh.trans (zd.mono Tw),?_⟩;refine⟨V,own,hv,?_⟩
        refine h.step (S':=((qS.mask m).kill ids J).st ids) (O':=O.put [] [] lo vo) (A':=λ_=>False) (λj=>j=J) qh (.refl V) (h.ok.below GH) (λ_ _ _ hx=>.inl hx) (λ_ _ hx=>.inl hx) (GH.mono h.below.size) ⟨λ_=>aZ _,λ_ _=>rfl⟩
         (λj hj=>⟨by rw[TO,if_neg hj],by simp[Env.setO,bC _ _ hj],rfl,λb hb=>⟨hb,by rw[CI]⟩⟩) (λj hj=>?_) (λb j hb=>?_) (λ_=>id) (λt=>?_) (λ_ hf=>hf.elim) (λb hb _=>by rw[CI]) (λb j hb=>.inl ⟨j,hb⟩) (λj hj=>?_)
        .rw[TO,if_pos hj];trivial
        .obtain⟨b1,b2,b3,b4⟩:=h.owns b j hb;exact⟨b1,by rw[CI];exact b2,b3,b4⟩
        .by_cases ht:t∈ws
         .refine .inr ⟨?_,λgs s' e=>absurd e (Snap.noOpt _ _ t gs s')⟩;have:(((qS.mask m).kill ids J).st ids).r t=.none:=SD t (vi t ht);rw[this];trivial
         .exact .inl ⟨rfl,zd.get t ht,rfl⟩
        .rw[TO,if_pos hj];intro e;cases e
   ·
        obtain⟨pd,S5⟩:∃pd,fW[i]?=some pd:=⟨_,aX (by rw[h9];exact(eA.1 vd).1)⟩
        obtain⟨bG,cu⟩:=uX i e pd vd S5;generalize CJ:({w1 with heap:=w1.heap.setIfInBounds kb (.mapIter (some mb) clock (gL arr (idx++[i])) clock)}:World)=w2 at ak;have aeM:w2.heap[kb]?=some (.mapIter (some mb) clock (gL arr (idx++[i])) clock):=by rw[<-CJ];simp[CI,hkl]
        have zj:∀b,b≠kb->w2.heap[b]?=w'.heap[b]?:=λb hb=>by rw[<-CJ];simp only[CI];rw[aaz (vR hb)]
        have aHx:w2.heap.size=w'.heap.size:=by rw[<-CJ];simp[CI]
        have aeN:w2.heap[mb]?=some (.map arr clock):=by rw[zj mb (vR au)];exact h4
        refine C4 kI g1 (by rw[q1];rfl) (v:=.tuple #[.bool true,e.key,e.val]) (w':=w2) (by simp only[execOp,q1,L5];simp[ak]) ?_;rw[d1]
        refine C4 fJ g2 (by rw[q2];rfl) (v:=.bool true) (w':=w2) (by
         have:(a'.put (some p.nx) (.tuple #[.bool true,e.key,e.val])).eval (.tmp p.nx)=.tuple #[.bool true,e.key,e.val]:=by simp only[Act.eval];exact Dc (by omega)
         simp only[execOp,q2,this];simp[Instr.extract]) ?_
        rw[d2];simp only[wpOpsIn]
        have zd:SameBut (λt=>t∈ws) a' ((a'.put (some p.nx) (.tuple #[.bool true,e.key,e.val])).put (some p.mo) (.bool true)):=by
         have s1:=SameBut.put a' (some p.nx) (.tuple #[.bool true,e.key,e.val]) a'.defers;have s2:=SameBut.put (a'.put (some p.nx) (.tuple #[.bool true,e.key,e.val])) (some p.mo) (.bool true) (a'.put (some p.nx) (.tuple #[.bool true,e.key,e.val])).defers;exact(s1.mono λt e=>by cases e;exact jo o1 (by rw[e1];simp) _ d1).trans (s2.mono λt e=>by cases e;exact jo o2 (by rw[e1];simp) _ d2)
        have adY:(((a'.put (some p.nx) (.tuple #[.bool true,e.key,e.val])).put (some p.mo) (.bool true))).eval (.tmp p.it)=.pointer (some ⟨kb,0,none⟩):=by
         simp only[Act.eval] at L5 ⊢;rw[NB n2,NB n1];exact L5
        generalize yP:(a'.put (some p.nx) (.tuple #[.bool true,e.key,e.val])).put (some p.mo) (.bool true)=a1 at zd adY;have SF:a1.eval (.tmp p.mo)=.bool true:=by
         rw[<-yP];simp only[Act.eval];exact Dc (by rw[size_put];omega)
        have qh:a1.defers=a'.defers:=by rw[<-yP,put_defers,put_defers]
        refine wpIn_seq (wpIn_cond_true SF (wpIn_skip ?_));refine wpIn_block (wpIn_seq (wpIn_region ?_));rw[wK];refine C4 ho3 g3 (by rw[q3];rfl) (v:=.tuple #[e.key,e.val]) (w':=w2) (by simp only[execOp,q3,adY];simp[aof aeM aeN jA vd]) ?_;rw[d3]
        have hs3:SameBut (λt=>t∈ws) a1 (a1.put (some p.pr) (.tuple #[e.key,e.val])):=
         (SameBut.put a1 (some p.pr) (.tuple #[e.key,e.val]) a1.defers).mono λt e=>by cases e;exact db o3 (by rw[e2];simp) _ d3
        have aeC:a1.tmps.size=n:=zd.size.trans wJ;refine ah6 (kv:=e.key) (vv:=e.val) l [] p.aa 1 _ oZ (by rw[e2];rfl) (λx hx=>by rw[hs3.size,aeC];exact ar9 _ (bY.2 ⟨x,hx,rfl⟩)) (Dc (by rw[aeC];exact se)) (λx hx=>by cases hx) (λa2 dU dA ar5=>?_);have Tf:SameBut (λt=>t∈ws) a' a2:=(zd.trans hs3).trans (dU.mono λt ⟨o,ho,hd⟩=>db o ho t hd);have aqL:a2.defers=a'.defers:=by rw[dA,put_defers,qh]
        have asA:Good C w0 σ0 (((qS.mask m).start (p.aa.map (·.1)) (p.aa.map λx=>bif Nat.beq x.2 0 then kt else et)).st ids) ((O.put (p.aa.map (·.1)) ((p.aa.map (·.2)).map (D.tup [pd.1,pd.2]).tget) lo vo).setO J (.tup [.list (iv fW idx++[.tup [pd.1,pd.2]]),.map fW])) (λ_=>False) a2 w2:=by
         have FO:Below w0.heap.size w' w2:=⟨by rw[<-CJ];exact GH.os,by rw[<-CJ];exact GH.tape,by rw[<-CJ];exact GH.output,by omega,λb hb=>zj b (λe=>by subst e;have:=(h.owns b J h2).1;omega)⟩
         have kJ:V.ok w2:=by
          refine⟨λb o v hc=>?_,λb es hc=>?_,h.ok.fz λb o v hc=>zj b λe=>by subst e;rw[(h.owns b J h2).2.2.1 o] at hc;cases hc⟩
          .have jh:b≠kb:=λe=>by subst e;rw[(h.owns b J h2).2.2.1 o] at hc;cases hc
           have:=h.ok.c b o v hc;simp only[World.cell?] at this ⊢;rw[zj b jh];exact this
          .have jh:b≠kb:=λe=>by subst e;rw[(h.owns b J h2).2.2.2] at hc;cases hc
           exact(h.ok.m b es hc).keep (zj b jh)
         have fZ:∀j,((O.put (p.aa.map (·.1)) ((p.aa.map (·.2)).map (D.tup [pd.1,pd.2]).tget) lo vo).setO J (.tup [.list (iv fW idx++[.tup [pd.1,pd.2]]),.map fW])).o j=if j=J then .tup [.list (iv fW idx++[.tup [pd.1,pd.2]]),.map fW] else putL O.o lo vo j:=λj=>by
          simp only[Env.setO,fq];rfl
         refine⟨V,own,hv,h.step (λj=>j=J) aqL (.refl V) kJ (λ_ _ _ hx=>.inl hx) (λ_ _ hx=>.inl hx) FO ⟨λ_=>aZ _,λ_ _=>rfl⟩
          (λj hj=>⟨rfl,by rw[fZ,if_neg hj];simp[Env.setO,bC _ _ hj,Env.put],rfl,λb hb=>⟨hb,zj b (λe=>by subst e;rw[h2] at hb;cases hb;exact hj rfl)⟩⟩) (λj hj=>?_) (λb j hb=>?_) (λ_=>id) (λt=>?_) (λ_ hf=>hf.elim)
          (λb hb ho=>zj b (λe=>by subst e;rw[h2] at ho;cases ho)) (λb j hb=>.inl ⟨j,hb⟩) (λj hj=>?_)⟩
         .subst hj;have:(((qS.mask m).start (p.aa.map (·.1)) (p.aa.map λx=>bif Nat.beq x.2 0 then kt else et)).st ids).o j=.it kt et:=Mg;rw[this];refine⟨kb,mb,arr,clock,fW,idx++[i],h1,h2,h3,au,aeN,aeM,by rw[fZ,if_pos rfl,ajK fW idx S5],?_,?_,h9,jA,uX⟩
          .rw[Jm];exact⟨h7,by simp,λa ha b hb e=>by simp at hb;subst hb;subst e;exact yX ha⟩
          .intro i' dg;rcases dO.1 dg with h|h
           .exact h8 i' h
           .simp at h;subst h;exact(eA.1 vd).1
         .obtain⟨b1,b2,b3,b4⟩:=h.owns b j hb;exact⟨b1,by omega,b3,b4⟩
         .have hc:Compat ((qS.mask m).st ids) hv (((qS.mask m).start (p.aa.map (·.1)) (p.aa.map λx=>bif Nat.beq x.2 0 then kt else et)).st ids) hv:=⟨λ_=>aZ _,λ_ _=>rfl⟩
          refine .inr ⟨?_,λgs s' e=>absurd e (Snap.noOpt _ _ t gs s')⟩;show aG C _ _ V hv (cL ((uu (p.aa.map (·.1)) (p.aa.map λx=>bif Nat.beq x.2 0 then kt else et) ((qS.mask m).rs.map ve)).getD t .none)) (a2.tmps.getD t undef) (putL O.r (p.aa.map (·.1)) ((p.aa.map (·.2)).map (D.tup [pd.1,pd.2]).tget) t);rcases Xe (p.aa.map (·.1)) (p.aa.map λx=>bif Nat.beq x.2 0 then kt else et) ((qS.mask m).rs.map ve) (by simp) c4 t with e|⟨nm,tq⟩|⟨i',y,nm,tq,Fa⟩
          .rw[e];trivial
          .rw[tq,Db _ _ _ _ nm];have e3:((qS.mask m).rs.map ve).getD t .none=ve ((qS.mask m).rs.getD t .none):=by
            simp only[aF,cm];cases(qS.mask m).rs[t]?<;>rfl
           rw[e3];by_cases htw:t∈ws
           .have Cv:=SD t (vi t htw);change cL ((qS.mask m).rs.getD t .none)=.none at Cv;generalize (qS.mask m).rs.getD t .none=s' at Cv;cases s'<;>simp[cL] at Cv<;>trivial
           .have hr:=h.regs t;change aG C _ _ V hv (cL ((qS.mask m).rs.getD t .none)) _ (O.r t) at hr;rw[Tf.get t htw];generalize (qS.mask m).rs.getD t .none=s' at hr;cases s' with
            |yv=>trivial
            |opt gs s=>trivial
            |none=>trivial
            |fclo f c=>exact aG.mono' (.refl V) hc (λ_ _ e=>by cases e) hr
            |agg l=>exact aG.mono' (.refl V) hc (λ_ _ e=>by cases e) hr
            |dat t=>exact hr
            |obj j v=>exact aG.mono' (.refl V) hc (λ_ _ e=>by cases e) hr
            |ptr j v o=>exact aG.mono' (.refl V) hc (λ_ _ e=>by cases e) hr
            |eptr j v o q=>exact aG.mono' (.refl V) hc (λ_ _ e=>by cases e) hr
          .rw[Fa];have ard:i'<p.aa.length:=by have:=(eL.1 nm).1;simpa using this
           rw[Vv _ (p.aa.map (·.1)) _ i' t (qD c4) (by simp) nm];obtain⟨xa,nA⟩:∃xa,p.aa[i']?=some xa:=⟨_,aX ard⟩
           simp only[cm,nA,kV,ba] at nm tq;subst nm;subst tq;rw[ar5 xa (ko nA)];have hd:((p.aa.map (·.2)).map (D.tup [pd.1,pd.2]).tget).getD i' .none=(D.tup [pd.1,pd.2]).tget xa.2:=by simp[aF,nA]
           rw[hd];have h2x:xa.2<=1:=by
            rcases Vm l oZ (λx hx=>by cases hx) xa (ko nA) with h|h
            .cases h
            .exact h.1
           rcases(by omega:xa.2=0\/xa.2=1) with e0|e0<;>rw[e0]
           .exact bG
           .exact cu
         .have:(((qS.mask m).start (p.aa.map (·.1)) (p.aa.map λx=>bif Nat.beq x.2 0 then kt else et)).st ids).o j=.it kt et:=by rw[hj];exact Mg
          rw[this];intro e;cases e
        have ar6:=ajK fW idx S5;obtain⟨rest,tW⟩:∃rest,(iv fW idx++(D.tup [pd.1,pd.2])::rest).Perm (ju (.map fW)):=by
         obtain⟨rest,hr⟩:=ax3 (es:=fW) (idx:=idx++[i]) (by rw[Jm];exact⟨h7,by simp,λa ha b hb e=>by simp at hb;subst hb;subst e;exact yX ha⟩) (λi' dg=>by
          rcases dO.1 dg with h|h
          .rw[h9];exact h8 i' h
          .simp at h;subst h;rw[h9];exact(eA.1 vd).1)
         rw[ar6] at hr;exact⟨rest,by simpa using hr⟩
        have gz:=aK _ tW;simp only[qH] at gz;split at gz
        case h_2=>cases gz
        rename_i ρ2 LR;obtain⟨xi,dM⟩:=abA LR;refine wpIn_mono (ihc rm _ q0 tU rd w0 σ0 wr _ xi a2 w2 gD hC hY (λt ht=>Tw t (hwc t ht)) (Tf.size.trans wJ) asA dM) λee a3 w3 fZ=>?_;have sd:=abC n6 (v7 code tU) dM LR fZ;have conv:∀ee a3 w3,iI C w0 σ0 ids fn s rm wr a2 (gV ids p.next q0).out (gV ids p.next q0).ex (.next ρ2) ee a3 w3->Exit.then (Code.roundsIn (FR rd) 0 C.P (.seq (.region i1 p.ops1 false) (.seq (.cond (.tmp p.mo) .skip (.exit p.out)) (.block p.next (.seq (.region i2 p.ops2 false) code)))) (iI C w0 σ0 ids fn s rm wr a none [(p.out,(qS.mask m).kill ids J)] x0) kk) (iI C w0 σ0 ids fn s rm wr a none [(p.out,(qS.mask m).kill ids J)] x0) ee a3 w3:=by
         intro ee a3 w3 ho;cases ee with
         |normal=>
          obtain⟨ρ3,T,f1,f2,f3,f4⟩:=ho;cases f1;refine ih (iv fW idx++[.tup [pd.1,pd.2]]) (lo.map ρ2.o) a3 w3 (lh.trans ((Tf.mono Tw).trans f3)) ?_ (λys ph=>?_) (by simp at hlen ⊢;omega)
          .have vb:Good C w0 σ0 (qS.st ids) ρ2 (λ_=>False) a3 w3:=by
            have:=f4.meet2 (x:=qS)
            rwa [Co T f2] at this
           obtain⟨σ3,zL,GD,fE⟩:=vb;have Sb:=PC.ev_but _ _ _ ρ2 LR rfl;refine⟨σ3,zL,GD,(fE.maskR m).env (Snap.noOpt _ _) (λt ht=>?_) (λj hj=>?_)⟩
           .have Cv:=arH t ht
            have cT:t∉(gV ids p.next q0).pc.modR:=λfH=>by
                 have:=SG.1 t fH;have h2:aS (Nat.lor m (gV ids p.next q0).mr) t=true:=by rw[gU,this,uE]
                 rw[Gf,Cv] at h2;cases h2
            rw[Sb.r t cT]
            have tS:t∉p.aa.map (·.1):=λaV=>by
                 have:aS m t=true:=by
                  refine vi t ?_;obtain⟨xa,nA,rfl⟩:=bY.1 aV;rcases Vm l oZ (λx hx=>by cases hx) xa nA with h|⟨_,o,ho,hd⟩
                  .cases h
                  .exact db o (by rw[e2];exact fw _ ho) _ hd
                 rw[Cv] at this;cases this
            show O.r t=putL O.r (p.aa.map (·.1)) _ t;rw[Db _ _ _ _ tS]
           .have hjd:qy (dw ids qS.os j)=false:=hj;show bX (putL O.o lo (lo.map ρ2.o)) J _ j=ρ2.o j;by_cases Cs:j=J
            .subst Cs;rw[aN,Sb.o j (λfH=>adf (SG.2 j fH))];simp[Env.setO,aN]
            .rw[bC _ _ Cs,vw];split
             .rfl
             .rename_i hZ;have cT:j∉(gV ids p.next q0).pc.modO:=λfH=>hZ (by rw[<-qm];exact dH.2 ⟨SG.2 j fH,by rw[hjd];rfl⟩);rw[Sb.o j cT];simp only[Env.setO,bC _ _ Cs];exact(Vw _ _ _ _ hZ).symm
          .have:=aK ((D.tup [pd.1,pd.2])::ys) (by simpa using ph);simp only[qH,LR] at this;exact this
         |exit id=>obtain⟨ρ3,T,f1,_⟩:=ho;cases f1
         |ret=>
          cases rm with
          |false=>obtain⟨d,f1,_⟩:=ho;cases f1
          |true=>obtain⟨ρ3,T,f1,_⟩:=ho;cases f1
         |_=>exact ho.elim
        cases ee with
        |exit id=>
         simp only[Exit.inBlock] at sd;show if id=p.next then _ else _;split
         .rename_i cN;rw[if_pos cN] at sd;exact conv .normal a3 w3 sd
         .rename_i cN;rw[if_neg cN] at sd;exact conv (.exit id) a3 w3 sd
        |normal=>exact conv .normal a3 w3 sd
        |ret=>exact conv .ret a3 w3 sd
        |panic c=>exact fZ.elim
        |goto l=>exact fZ.elim
        |_=>exact fZ.elim
 have hgq:Good C w0 σ0 (qS.st ids) O (λ_=>False) a w:=bO hg;obtain⟨V,own,hv,h⟩:=hgq;have bn:=h.objs J;have:(qS.st ids).o J=.it kt et:=Mg;rw[this] at bn;obtain⟨kb,mb,arr,clock,fW,idx,h1,h2,h3,au,h4,h5,h6,h7,h8,h9,jA,uX⟩:=bn;have hρJ:O.o J=.tup [.list [],es]:=by
  rw[h6] at Gn jX;simp[D.tget] at Gn jX;rw[h6,Gn,<-jX]
 have yU:(O.put [] [] lo (lo.map O.o)).setO J (.tup [.list [],es])=O:=by
  rw[Env.put_self];show Env.mk _ _=_;have:bX O.o J (.tup [.list [],es])=O.o:=by
   funext j;rw[fq];split
   .rename_i e;rw[e];exact hρJ.symm
   .rfl
  rw[this]
 exact wpIn_loop_rounds _ (key ((ju es).length+1) [] (lo.map O.o) a w (.refl _ _) (by rw[yU];exact⟨V,own,hv,h.maskR m⟩) (λys ph=>aqp ys ph) (by simp))
def amO {N:Nat}(eh:gR C Z)(hR:PR C n ids Z R):∀(k:Nat) (c:Code),sizeOf c<k->yg C Z fn s n ids R N c:=by
 intro k;refine Nat.rec (λc h=>absurd h (Nat.not_lt_zero _)) (λk IH=>?_) k;intro c hc;cases c with
 |skip=>
  intro rm S r h rd w0 σ0 wr O x a w gD hC hY gG hn hg he;simp only[comp,ba] at h;subst h;simp only[PC.ev,ba] at he;subst he;exact wpIn_skip ⟨O,S,rfl,rfl,.refl _ _,hg⟩
 |region id ops draw=>
  intro rm S r h rd w0 σ0 wr O x a w gD hC hY gG hn hg he;simp only[comp,aB] at h;obtain⟨q,hq,rfl⟩:=h;simp only[PC.ev,aB] at he;obtain⟨O',hr,rfl⟩:=he;exact hR id ops draw S q hq rd w0 σ0 O O' a w _ hC hY hn hg hr (λa' w' ei lT=>⟨O',q.1,rfl,rfl,ei.mono (λt ⟨o,h1,h2⟩=>gG t (AK.2 ⟨o,h1,h2⟩)),lT⟩)
 |seq c1 c2=>
  have wP:=IH c1 (by simp at hc;omega);have wQ:=IH c2 (by simp at hc;omega);intro rm S r h rd w0 σ0 wr O x a w gD hC hY gG hn hg he;have jo:∀t,t∈cG c1->wr t:=λt ht=>gG t (jx _ ht);have db:∀t,t∈cG c2->wr t:=λt ht=>gG t (jO _ ht);simp only[comp,az] at h;obtain⟨q,hq,h⟩:=h;split at h
  .rename_i lg;cases h;refine wpIn_seq (wpIn_mono (wP rm S _ hq rd w0 σ0 wr O x a w gD hC hY jo hn hg he) λe a' w' ho=>?_);cases e with
   |normal=>obtain⟨_,_,_,h2,_⟩:=ho;rw[lg] at h2;cases h2
   |_=>exact ho
  .rename_i S1 lg;simp only[aB] at h;obtain⟨p,hp,rfl⟩:=h;simp only[PC.ev] at he
   have key:∀x1,q.pc.ev Z N O=some x1->(match some x1 with|some (.next O')=>p.pc.ev Z N O'|y=>y)=some x->(Code.seq c1 c2).wpIn (FR rd) 0 C.P (iI C w0 σ0 ids fn s rm wr a p.out (q.ex++p.ex) x) a w:=by
      intro x1 h1 h2;refine wpIn_seq (wpIn_mono (wP rm S _ hq rd w0 σ0 wr O x1 a w gD hC hY jo hn hg h1) λe a' w' ho=>?_);have other:∀{e:Exit},e≠.normal->iI C w0 σ0 ids fn s rm wr a q.out q.ex x1 e a' w'->x1=x->iI C w0 σ0 ids fn s rm wr a p.out (q.ex++p.ex) x e a' w':=by
       intro e au ho hx;subst hx;exact ho.mono (λy hy=>jx _ hy) (.refl _ _) (λe=>absurd e au)
      cases e with
      |normal=>
       obtain⟨ρ1,S2,e1,e2,dU,iL⟩:=ho;subst e1;rw[lg] at e2;cases e2;simp only at h2;refine wpIn_mono (wQ rm S1 _ hp rd w0 σ0 wr ρ1 x a' w' gD hC hY db (dU.size.trans hn) iL h2) λe a2 w2 fJ=>?_;exact fJ.mono (λy hy=>jO _ hy) dU (λ_=>rfl)
      |exit id=>
       refine other (by simp) ho ?_;obtain⟨ρ1,S2,e1,_⟩:=ho;subst e1;simpa using h2
      |ret=>
       refine other (by simp) ho ?_;cases rm with
       |false=>obtain⟨d,e1,_⟩:=ho;subst e1;simpa using h2
       |true=>obtain⟨ρ1,S2,e1,_⟩:=ho;subst e1;simpa using h2
      |_=>exact ho.elim
   cases h1:q.pc.ev Z N O with
   |none=>rw[h1] at he;simp at he
   |some x1=>rw[h1] at he;exact key x1 h1 he
 |cond c c1 c2=>
  have wP:=IH c1 (by simp at hc;omega);have wQ:=IH c2 (by simp at hc;omega);intro rm S r h rd w0 σ0 wr O x a w gD hC hY gG hn hg he;have jo:∀t,t∈cG c1->wr t:=λt ht=>gG t (jx _ ht);have db:∀t,t∈cG c2->wr t:=λt ht=>gG t (jO _ ht);simp only[comp] at h;split at h
  case h_2=>cases h;exact absurd he (nT _ _ _ _)
  rename_i e hu;simp only[az,aB] at h;obtain⟨q,hq,p,hp,rfl⟩:=h;have hb:∃b,a.eval c=.bool b/\e.ev O=.v (.bool b):=by
   obtain⟨V,own,hv,hi⟩:=hg;have:=cB (gs:=[]) hi hC rfl hu;generalize a.eval c=v at this;generalize e.ev O=d at this;cases this with|bool b=>exact⟨b,rfl,rfl⟩
  obtain⟨b,gz,df⟩:=hb;have tR:=v7 c1 hq;have Ge:=v7 c2 hp;have main:∀(o:Option Snap) (lr lo:List Nat) (rx:Res2),rx=⟨.ite e lr lo q.pc p.pc,o,q.ex++p.ex,Nat.lor q.mr p.mr,kg q.mo p.mo⟩->
        (∀M,o=some M->lr=lx M (Nat.lor q.mr p.mr)/\lo=j3 ids M (kg q.mo p.mo))->
        (∀S1 ρ1 a w,q.out=some S1->Good C w0 σ0 (S1.st ids) ρ1 (λ_=>False) a w->∃M,o=some M/\Good C w0 σ0 (M.st ids) ρ1 (λ_=>False) a w)->
        (∀S1 ρ1 a w,p.out=some S1->Good C w0 σ0 (S1.st ids) ρ1 (λ_=>False) a w->∃M,o=some M/\Good C w0 σ0 (M.st ids) ρ1 (λ_=>False) a w)->
        rx.pc.ev Z N O=some x->(Code.cond c c1 c2).wpIn (FR rd) 0 C.P (iI C w0 σ0 ids fn s rm wr a rx.out rx.ex x) a w:=by
   intro o lr lo rx hrx hl tV oZ bM;subst hrx;simp only[PC.ev,df,D.b_bool] at bM;have fin:∀(ci:Code) (qi:Res2) (xi:Out),(∀y,y∈qi.ex->y∈q.ex++p.ex)->(∀t,t∈qi.pc.modR->aS (Nat.lor q.mr p.mr) t=true)->(∀j,j∈qi.pc.modO->j∈kg q.mo p.mo)->
    (∀S1 ρ1 a w,qi.out=some S1->Good C w0 σ0 (S1.st ids) ρ1 (λ_=>False) a w->∃M,o=some M/\Good C w0 σ0 (M.st ids) ρ1 (λ_=>False) a w)->
    qi.pc.ev Z N O=some xi->(match some xi with|some (.next O')=>some (Out.next (O.join lr lo O'))|y=>y)=some x->
    ci.wpIn (FR rd) 0 C.P (iI C w0 σ0 ids fn s rm wr a qi.out qi.ex xi) a w->ci.wpIn (FR rd) 0 C.P (iI C w0 σ0 ids fn s rm wr a o (q.ex++p.ex) x) a w:=by
        intro ci qi xi hex mD ny lg dM hx hwp;refine wpIn_mono hwp λee a' w' ho=>?_;have other:ee≠.normal->xi=x->iI C w0 σ0 ids fn s rm wr a o (q.ex++p.ex) x ee a' w':=by
         intro au ln;subst ln;exact ho.mono hex (.refl _ _) (λe=>absurd e au)
        cases ee with
        |normal=>
         obtain⟨ρ1,S2,e1,e2,dU,iL⟩:=ho;subst e1;simp only[ba] at hx;subst hx;obtain⟨M,hM,vb⟩:=lg S2 ρ1 a' w' e2 iL;obtain⟨l1,l2⟩:=hl M hM;subst l1 l2;exact⟨_,M,rfl,hM,dU,vb.joined (PC.ev_but qi.pc O _ ρ1 dM rfl) mD ny⟩
        |exit id=>
         refine other (by simp) ?_;obtain⟨ρ1,S2,e1,_⟩:=ho;subst e1;simpa using hx
        |ret=>
         refine other (by simp) ?_;cases rm with
         |false=>obtain⟨d,e1,_⟩:=ho;subst e1;simpa using hx
         |true=>obtain⟨ρ1,S2,e1,_⟩:=ho;subst e1;simpa using hx
        |_=>exact ho.elim
   refine wpIn_cond gz ?_;cases b with
   |true=>
    simp only[zyy] at bM;cases dM:q.pc.ev Z N O with
    |none=>rw[dM] at bM;simp at bM
    |some xi=>
     rw[dM] at bM;refine fin c1 q xi (λy hy=>jx _ hy) (λt ht=>?_) (λj hj=>sw.2 (.inl (tR.2 j hj))) tV dM bM (wP rm S _ hq rd w0 σ0 wr O xi a w gD hC hY jo hn hg dM);rw[gU,tR.1 t ht];rfl
   |false=>
    simp only[zyx] at bM;cases dM:p.pc.ev Z N O with
    |none=>rw[dM] at bM;simp at bM
    |some xi=>
     rw[dM] at bM;refine fin c2 p xi (λy hy=>jO _ hy) (λt ht=>?_) (λj hj=>sw.2 (.inr (Ge.2 j hj))) oZ dM bM (wQ rm S _ hp rd w0 σ0 wr O xi a w gD hC hY db hn hg dM);rw[gU,Ge.1 t ht,uE]
  have tV:∀S1 ρ1 a w,q.out=some S1->Good C w0 σ0 (S1.st ids) ρ1 (λ_=>False) a w->∃M,nF q.out p.out=some M/\Good C w0 σ0 (M.st ids) ρ1 (λ_=>False) a w:=by
   intro S1 ρ1 a w e1 g1;rw[e1];obtain⟨M,hM⟩:=@afZ S1 p.out;exact⟨M,hM,afX g1 hM⟩
  have oZ:∀S1 ρ1 a w,p.out=some S1->Good C w0 σ0 (S1.st ids) ρ1 (λ_=>False) a w->∃M,nF q.out p.out=some M/\Good C w0 σ0 (M.st ids) ρ1 (λ_=>False) a w:=by
   intro S1 ρ1 a w e1 g1;rw[e1];obtain⟨M,hM⟩:=@af0 q.out S1;exact⟨M,hM,afY g1 hM⟩
  cases hm:nF q.out p.out with
  |none=>
   rw[hm] at tV oZ;simp only[hm] at he ⊢;exact main none [] [] _ rfl (λM e=>by cases e) tV oZ he
  |some M=>
   rw[hm] at tV oZ;simp only[hm] at he ⊢;exact main (some M) _ _ _ rfl (λM' e=>by cases e;exact⟨rfl,rfl⟩) tV oZ he
 |block id c1=>
  have wP:=IH c1 (by simp at hc;omega);intro rm S r h rd w0 σ0 wr O x a w gD hC hY gG hn hg he;simp only[comp] at h;cases cN:Nat.beq id cS<;>simp only[cN,zyy,zyx] at h
  case true=>cases h;exact absurd he (nT _ _ _ _)
  have L4:id≠cS:=λe=>by subst e;simp at cN
  simp only[aB] at h;obtain⟨q,hq,rfl⟩:=h;obtain⟨xi,dM⟩:=abA he;exact wpIn_block (wpIn_mono (wP rm S _ hq rd w0 σ0 wr O xi a w gD hC hY gG hn hg dM) λe a' w' fZ=>abC L4 (v7 c1 hq) dM he fZ)
 |loop c1=>
  have wP:=IH c1 (by simp at hc;omega);intro rm S r h rd w0 σ0 wr O x a w gD hC hY gG hn hg he;rw[ab4] at h;split at h
  .rename_i qb Gw;obtain⟨p,code,ws⟩:=qb;unfold zy at Gw;split at Gw
   case h_2=>cases Gw
   rename_i cx cy ck cz cc;simp only[aB] at Gw;obtain⟨p',aV,ep⟩:=Gw;cases ep;exact au7 aV (IH _ (by simp at hc;omega)) h gD hC hY gG hn hg he
  split at h
  case h_2=>cases h;exact absurd he (nT _ _ _ _)
  rename_i q hq;cases h;obtain⟨hs,Co,bO⟩:=GQ (C:=C) (w0:=w0) (σ0:=σ0) (ids:=ids) 8 hq;have tR:=v7 c1 hs;simp only[PC.ev] at he
  have yV:Good C w0 σ0 (q.1.st ids) (O.put (lx q.1 q.2.mr) ((lx q.1 q.2.mr).map O.r) (j3 ids q.1 q.2.mo) ((j3 ids q.1 q.2.mo).map O.o)) (λ_=>False) a w:=by
   exact Good.joined (bO hg) (.refl O q.2.pc.modR q.2.pc.modO) tR.1 tR.2
  have key:∀(k:Nat) (ρ1:Env) (a':Act) (w:World),SameBut wr a a'->jr (q.2.pc.ev Z N) O (lx q.1 q.2.mr) (j3 ids q.1 q.2.mo) k ((lx q.1 q.2.mr).map ρ1.r) ((j3 ids q.1 q.2.mo).map ρ1.o)=some x->
        Good C w0 σ0 (q.1.st ids) (O.join (lx q.1 q.2.mr) (j3 ids q.1 q.2.mo) ρ1) (λ_=>False) a' w->Code.roundsIn (FR rd) 0 C.P c1 (iI C w0 σ0 ids fn s rm wr a none q.2.ex x) k a' w:=by
   intro k
   induction k with
   |zero=>intro ρ1 a' w hn hl hg;simp[jr] at hl
   |succ k ih=>
    intro ρ1 a' w lh hl hg;rw[roundsIn_succ];simp only[jr] at hl;change (match q.2.pc.ev Z N (O.join (lx q.1 q.2.mr) (j3 ids q.1 q.2.mo) ρ1) with|some (.next O')=>_|y=>y)=some x at hl;cases dM:q.2.pc.ev Z N (O.join (lx q.1 q.2.mr) (j3 ids q.1 q.2.mo) ρ1) with
    |none=>rw[dM] at hl;simp at hl
    |some xi=>
     rw[dM] at hl;refine wpIn_mono (wP rm _ _ hs rd w0 σ0 wr _ xi a' w gD hC hY gG (lh.size.trans hn) hg dM) λe a2 w' fZ=>?_;have other:e≠.normal->xi=x->iI C w0 σ0 ids fn s rm wr a none q.2.ex x e a2 w':=by
         intro au ln;subst ln;exact fZ.mono (λy hy=>hy) lh (λe=>absurd e au)
     cases e with
     |normal=>
      obtain⟨ρ2,S2,e1,e2,dU,iL⟩:=fZ;subst e1;simp only at hl;refine ih ρ2 a2 w' (lh.trans dU) hl ?_
      have vb:Good C w0 σ0 (q.1.st ids) ρ2 (λ_=>False) a2 w':=by
       have:=iL.meet2 (x:=q.1)
       rwa [Co S2 e2] at this
      refine vb.joined (mr':=lx q.1 q.2.mr++q.2.pc.modR) (mo':=j3 ids q.1 q.2.mo++q.2.pc.modO) ?_ (λt ht=>?_) (λj hj=>?_)
      .exact((Env.but.join O ρ1 _ _).mono (λt ht=>jx _ ht) (λt ht=>jx _ ht)).trans
        ((PC.ev_but q.2.pc _ _ ρ2 dM rfl).mono (λt ht=>jO _ ht) (λt ht=>jO _ ht))
      .exact(dO.1 ht).elim MT (tR.1 t)
      .exact(dO.1 hj).elim CV (tR.2 j)
     |exit id=>
      refine other (by simp) ?_;obtain⟨ρ1,S2,e1,_⟩:=fZ;subst e1;simpa using hl
     |ret=>
      refine other (by simp) ?_;cases rm with
      |false=>obtain⟨d,e1,_⟩:=fZ;subst e1;simpa using hl
      |true=>obtain⟨ρ1,S2,e1,_⟩:=fZ;subst e1;simpa using hl
     |_=>exact fZ.elim
  exact wpIn_loop_rounds N (key N O a w (.refl _ _) he yV)
 |exit id=>
  intro rm S r h rd w0 σ0 wr O x a w gD hC hY gG hn hg he;simp only[comp] at h;cases cN:Nat.beq id cS<;>simp only[cN,zyy,zyx] at h
  case true=>cases h;exact absurd he (nT _ _ _ _)
  cases h;simp only[PC.ev,ba] at he;subst he;exact wpIn_exit ⟨O,S,rfl,λe=>by subst e;simp at cN,by simp,.refl _ _,hg⟩
 |ret=>
  intro rm S r h rd w0 σ0 wr O x a w gD hC hY gG hn hg he;simp only[comp] at h;cases rm<;>simp only[zyy,zyx] at h
  case true=>
   cases h;simp only[PC.ev,ba] at he;subst he;exact wpIn_ret ⟨O,S,rfl,by simp,.refl _ _,hg⟩
  split at h
  .rename_i e Tc;cases h;simp only[PC.ev,ba] at he;subst he;obtain⟨V,own,hv,hi⟩:=hg;exact wpIn_ret ⟨_,rfl,Inv.retD hC (λ_=>rfl) (gD rfl).2 Tc _ hi rfl,.refl _ _⟩
  .cases h;exact absurd he (nT _ _ _ _)
 |rangeFunc g ps ca cb=>exact axc eh (IH ca (by simp at hc;omega)) (IH cb (by simp at hc;omega))
 |_=>intro rm S r h rd w0 σ0 wr O x a w gD hC hY gG hn hg he;simp only[comp,ba] at h;subst h;exact absurd he (nT _ _ _ _)
def amN {N:Nat}(eh:gR C Z)(hR:PR C n ids Z R)(c:Code):yg C Z fn s n ids R N c:=amO eh hR _ c (Nat.lt_succ_self _)
end
end Cx
