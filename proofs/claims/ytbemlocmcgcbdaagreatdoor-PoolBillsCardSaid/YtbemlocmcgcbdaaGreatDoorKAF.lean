/-
  Code: sequences, choices, blocks, loops.
-/
import Derived.LoopNIn
import Derived.Test.YtbemlocmcgcbdaaGreatDoorKAE
import Derived.LoopN
set_option linter.defProp false
set_option linter.unusedSimpArgs false
set_option linter.unusedVariables false
namespace Cx
open Go Go.RowKit
def aU (m t:Nat):Bool:= !Nat.beq (Nat.land 1 (Nat.shiftRight m t)) 0
def yj (m t:Nat):aU m t=m.testBit t:=by
 unfold aU Nat.testBit;show(!Nat.beq (1&&& (m>>>t)) 0)=((1&&& (m>>>t))!=0)
 generalize 1&&& (m>>>t)=x;cases x<;>rfl
def iI (t:Nat):Nat:=Nat.shiftLeft 1 t
def sG (t:Nat):aU (iI t) t=true:=by
 rw[yj];show(1<<<t).testBit t=true;simp[Nat.testBit_shiftLeft]
def gU (m k t:Nat):aU (Nat.lor m k) t=(aU m t||aU k t):=by
 simp only[yj];exact Nat.testBit_or m k t
def PI.mask:PI->Nat
 |.setR t _=>iI t|.call _ t _ _=>iI t|.callc _ t _ _=>iI t|_=>0
def ML:List PI->Nat
 |[]=>0
 |p::l=>Nat.lor p.mask (ML l)
def PI.objs:PI->List Nat
 |.setO j _=>[j]|.mcall j _ _=>[j]|_=>[]
def fK (l:List Nat)(x:Nat):Bool:=l.any (Nat.beq x)
def j1 (a b:List Nat):List Nat:=a.foldl (λacc x=>bif fK acc x then acc else x::acc) b
def agK (l:List PI):List Nat:=l.foldl (λacc p=>j1 p.objs acc) []
def rE (l:List Nat)(x:Nat):fK l x=true↔x∈l:=by
 unfold fK;rw[xR];constructor
 .rintro⟨y,hy,h⟩;rw[aD h];exact hy
 .intro h;exact⟨x,h,lu x⟩
def rF {x:Nat}:∀{a b:List Nat},x∈j1 a b↔x∈a\/x∈b
 |[],b=>by simp[j1]
 |y::a,b=>by
  have ih:=@rF x a (bif fK b y then b else y::b);have e:j1 (y::a) b=j1 a (bif fK b y then b else y::b):=rfl;rw[e,ih];cases hb:fK b y
  .simp[or_assoc,or_left_comm]
  .have:=(rE b y).1 hb;simp only[zyy,cv];constructor
   .rintro(h|h)
    .exact .inl (.inr h)
    .exact .inr h
   .rintro((h|h)|h)
    .subst h;exact .inr this
    .exact .inl h
    .exact .inr h
def axm {x:Nat}(l:List PI)(h:x∈l.flatMap PI.modO):x∈agK l:=by
 have key:∀(l:List PI) (acc:List Nat),(x∈l.flatMap PI.modO\/x∈acc)->x∈l.foldl (λacc p=>j1 p.objs acc) acc:=by
  intro l
  induction l with
  |nil=>intro acc h;simpa using h
  |cons p l ih=>
   intro acc h;refine ih _ ?_;rw[vF,dZ] at h;rcases h with(h|h)|h
   .refine .inr (rF.2 (.inl ?_));cases p<;>simp_all [PI.modO,PI.objs]
   .exact .inl h
   .exact .inr (rF.2 (.inr h))
 exact key l [] (.inl h)
def agi {t:Nat}:∀(l:List PI),t∈l.flatMap PI.modR->aU (ML l) t=true
 |[],h=>by simp at h
 |p::l,h=>by
  rw[vF,dZ] at h;simp only[ML,gU,j5];rcases h with h|h
  .left;cases p<;>simp[PI.modR] at h<;>subst h<;>exact sG _
  .exact .inr (agi l h)
structure Res2 where
 pc:PC
 out:Option Snap
 ex:List (Nat×Snap)
 mr:Nat
 mo:List Nat
 deriving Inhabited
def nq:Option Snap->Option Snap->Option Snap
 |none,x=>x
 |x,none=>x
 |some a,some b=>some (a.meet b)
def p9 (id:Nat):List (Nat×Snap)->Option Snap->Option Snap
 |[],acc=>acc
 |x::l,acc=>p9 id l (bif Nat.beq x.1 id then nq acc (some x.2) else acc)
def iter (step:Snap->Option Res2):Nat->Snap->Option (Snap×Res2)
 |0,_=>none
 |k+1,S=>(step S).bind λr=>
  match r.out with
  |none=>some (S,r)
  |some T=>bif (S.meet T).beq S then some (S,r) else iter step k (S.meet T)
def kZ (S:Snap)(m:Nat):List Nat:=(List.range S.rs.length).filter λt=>aU m t&& !isNone (cG (S.rs.getD t .none))
def jS (ids:List Nat)(S:Snap)(l:List Nat):List Nat:=l.filter λj=> !pZ (dq ids S.os j)
def iw:Res2:=⟨.is [IS],none,[],0,[]⟩
def nA (Z:aO)(N:Nat)(O:Env)(x:Out):iw.pc.ev Z N O≠some x:=by
 intro h;simp[iw,PC.ev,PI.runs,PI.run,IS,PE.ev,D.b_bool] at h
def nB:(∀t,t∈iw.pc.modR->aU iw.mr t=true)/\∀j,j∈iw.pc.modO->j∈iw.mo:=by
 constructor<;>intro t h<;>simp[iw,PC.modR,PC.modO,PI.modR,PI.modO,IS] at h
def cA:Code->List Nat
 |.region _ ops _=>ops.toList.filterMap (·.dst)
 |.seq a b=>cA a++cA b
 |.cond _ a b=>cA a++cA b
 |.block _ a=>cA a
 |.loop a=>cA a
 |_=>[]
def zP (l:List Nat):Nat:=l.foldr (λt m=>Nat.lor (iI t) m) 0
def uY (m:Nat):Nat->List Sh->List Sh
 |_,[]=>[]
 |t,s::l=>(bif aU m t then .none else s)::uY m (t+1) l
def Snap.mask (m:Nat)(S:Snap):Snap:=⟨uY m 0 S.rs,S.os⟩
def uP:Sh->Sh
 |.yv=>.none
 |s=>s
def tZ:List Nat->List Ty->List Sh->List Sh
 |p::ps,y::ys,l=>tZ ps ys (l.set p (.dat y))
 |_,_,l=>l
def Snap.start (ps:List Nat)(ys:List Ty)(S:Snap):Snap:=⟨tZ ps ys (S.rs.map uP),S.os⟩
def aga (ids:List Nat)(l:List Snap)(mo:List Nat):List Nat:=mo.filter λj=>l.any λS=> !pZ (dq ids S.os j)
def az6 (wm:Nat)(ra rb:Res2):Res2:=
 let m:=Nat.lor wm (Nat.lor ra.mr rb.mr)
 ⟨.seq ra.pc rb.pc,rb.out.map (Snap.mask m),rb.ex.map (λx=>(x.1,x.2.mask m)),m,j1 ra.mo rb.mo⟩
def gV (ids:List Nat)(id:Nat)(r:Res2):Res2:=
    match p9 id r.ex r.out with
    |some M=>⟨.block id (kZ M r.mr) (jS ids M r.mo) r.pc,some M,r.ex.filter λx=> !Nat.beq x.1 id,r.mr,r.mo⟩
    |none=>⟨.block id [] [] r.pc,none,r.ex.filter λx=> !Nat.beq x.1 id,r.mr,r.mo⟩
def wT:List (Nat×Nat)->Nat->Option Nat
 |[],_=>none
 |x::l,t=>bif Nat.beq x.1 t then some x.2 else wT l t
def lW (pr:Nat):List Oper->List (Nat×Nat)->Option (List (Nat×Nat))
 |[],acc=>some acc
 |o::l,acc=>
  match o.dst,o.guard with
  |some d,none=>
   bif Nat.beq d pr||(wT acc d).isSome then none else
   match o.op with
   |.extract (.tmp t) i=>bif Nat.beq t pr&&Nat.ble i 1 then lW pr l (acc++[(d,i)]) else none
   |.assign (.tmp t)=>(wT acc t).bind λi=>lW pr l (acc++[(d,i)])
   |.move (.tmp t)=>(wT acc t).bind λi=>lW pr l (acc++[(d,i)])
   |_=>none
  |_,_=>none
structure MP where
 it:Nat
 nx:Nat
 mo:Nat
 out:Nat
 next:Nat
 pr:Nat
 ops1:Array Oper
 ops2:Array Oper
 aa:List (Nat×Nat)
 deriving Inhabited
def Da (x y:Code)(k:Nat)(z:Code):Option MP:=
 match x,y,z with
 |.region _ ops1 false,.cond (.tmp mo) .skip (.exit out),.region _ ops2 false=>
  match ops1.toList,ops2.toList with
  |[o1,o2],o3::l=>
   match o1.dst,o1.guard,o1.op,o2.dst,o2.guard,o2.op,o3.dst,o3.guard,o3.op with
   |some nx,none,.next (.tmp it) false,some mo',none,.extract (.tmp nx') 0,some pr,none,.entry (.tmp it')=>
    bif Nat.beq mo mo'&&Nat.beq nx nx'&&Nat.beq it it'&& !Nat.beq it nx&& !Nat.beq it mo&& !Nat.beq it pr&& !Nat.beq nx mo&& !Nat.beq out cN&& !Nat.beq k cN then
     (lW pr l []).map λaa=>⟨it,nx,mo,out,k,pr,ops1,ops2,aa⟩
    else none
   |_,_,_,_,_,_,_,_,_=>none
  |_,_=>none
 |_,_,_=>none
def zH:List Nat->Nat->List Ob->List Ob
 |i::is,J,o::os=>(bif Nat.beq i J then .dead else o)::zH is J os
 |_,_,os=>os
def Snap.kill (ids:List Nat)(J:Nat)(S:Snap):Snap:=⟨S.rs,zH ids J S.os⟩
def afs (J:Nat)(kt et:Ty)(ids:List Nat)(p:MP)(m:Nat)(S:Snap):Bool:=
 Sh.beq (S.rs.getD p.it .none) (.obj J 0)&&Ob.beq (dq ids S.os J) (.it kt et)&& !aU m p.it
def Db (ids:List Nat)(n:Nat)(p:MP)(ws:List Nat)(f:Snap->Option Res2)(S:Snap):Option Res2:=
 match cG (S.rs.getD p.it .none) with
 |.obj J 0=>
  match dq ids S.os J with
  |.it kt et=>
   let ps:=p.aa.map (·.1)
   let ys:=p.aa.map λx=>bif Nat.beq x.2 0 then kt else et
   let m:=zP ws
   match iter (λS=>(f ((S.mask m).start ps ys)).map (gV ids p.next)) 8 S with
   |some r=>
    bif r.2.ex.isEmpty&& !fK r.2.mo J&&afs J kt et ids p m r.1&&kA ps&&ps.all (λt=>Nat.blt t n)&&Nat.blt p.nx n&&Nat.blt p.mo n&&Nat.blt p.pr n&&Nat.beq (Nat.lor m r.2.mr) m then
       some ⟨.seq (.meach J ps (p.aa.map (·.2)) (jS ids r.1 r.2.mo) r.2.pc) (.exit p.out),none,[(p.out,(r.1.mask m).kill ids J)],0,r.2.mo⟩
    else some iw
   |none=>some iw
  |_=>some iw
 |_=>some iw
def comp (C:Ctx)(fn:Func)(s:Sig)(n:Nat)(ids:List Nat)(R:Array Oper->Bool->Snap->Option (Snap×List PI)):Bool->Code->Snap->Option Res2
 |_,.skip,S=>some ⟨.skip,some S,[],0,[]⟩
 |_,.region _ ops draw,S=>(R ops draw S).map λr=>⟨.is r.2,some r.1,[],ML r.2,agK r.2⟩
 |rm,.seq a b,S=>(comp C fn s n ids R rm a S).bind λr=>
  match r.out with
  |none=>some r
  |some S1=>(comp C fn s n ids R rm b S1).map λq=>⟨.seq r.pc q.pc,q.out,r.ex++q.ex,Nat.lor r.mr q.mr,j1 r.mo q.mo⟩
 |rm,.cond c a b,S=>
  match use C (S.st ids) [] c with
  |some (.bool,e)=>
   (comp C fn s n ids R rm a S).bind λr=>(comp C fn s n ids R rm b S).map λq=>
     match nq r.out q.out with
     |some M=>⟨.ite e (kZ M (Nat.lor r.mr q.mr)) (jS ids M (j1 r.mo q.mo)) r.pc q.pc,some M,r.ex++q.ex,Nat.lor r.mr q.mr,j1 r.mo q.mo⟩
     |none=>⟨.ite e [] [] r.pc q.pc,none,r.ex++q.ex,Nat.lor r.mr q.mr,j1 r.mo q.mo⟩
  |_=>some iw
 |rm,.block id a,S=>bif Nat.beq id cN then some iw else(comp C fn s n ids R rm a S).map (gV ids id)
 |rm,.loop (.seq x (.seq y (.block k (.seq z code)))),S=>
  (match Da x y k z with
  |some p=>Db ids n p (cA x++(cA y++(cA z++cA code))) (λS=>comp C fn s n ids R rm code S) S
  |none=>
  match iter (λS=>comp C fn s n ids R rm (.seq x (.seq y (.block k (.seq z code)))) S) 8 S with
  |some r=>some ⟨.loop (kZ r.1 r.2.mr) (jS ids r.1 r.2.mo) r.2.pc,none,r.2.ex,r.2.mr,r.2.mo⟩
  |none=>some iw)
 |rm,.loop a,S=>
  match iter (λS=>comp C fn s n ids R rm a S) 8 S with
  |some r=>some ⟨.loop (kZ r.1 r.2.mr) (jS ids r.1 r.2.mo) r.2.pc,none,r.2.ex,r.2.mr,r.2.mo⟩
  |none=>some iw
 |_,.exit id,S=>bif Nat.beq id cN then some iw else some ⟨.exit id,none,[(id,S)],0,[]⟩
 |rm,.ret,S=>
  bif rm then some ⟨.exit cN,none,[(cN,S)],0,[]⟩ else
  match AA C fn s (S.st ids) with
  |some e=>some ⟨.ret e,none,[],0,[]⟩
  |none=>some iw
 |rm,.rangeFunc g ps a b,S=>
  match rm,C.yl,use C (S.st ids) [] g with
  |false,none,some (.fn aa r,e)=>
   match oO aa r with
   |some ys=>
    match iter (λS=>(comp C fn s n ids R true a (S.start ps.toList ys)).bind λra=>
          match ra.out,ra.ex with
          |some S1,[]=>(comp C fn s n ids R true b S1).map (az6 (zP (ps.toList++cA a++cA b)) ra)
          |_,_=>none) 8 S with
    |some r=>
     bif Nat.beq ys.length ps.size&&kA ps.toList&&ps.toList.all (λp=>Nat.blt p n)&&Nat.ble r.1.rs.length n then
           some ⟨.seq (.is [.callc [] n e []]) (.each (.r n) ps.toList (aga ids (r.1::r.2.ex.map (·.2)) r.2.mo) ((p9 cN r.2.ex none).bind λM=>AA C fn s (M.st ids)) r.2.pc),
            some r.1,r.2.ex.filter (λx=> !Nat.beq x.1 cN),iI n,r.2.mo⟩
     else some iw
    |none=>some iw
   |none=>some iw
  |_,_,_=>some iw
 |_,_,_=>some iw
termination_by structural _ c=>c
def zN:Code->Option (MP×Code×List Nat)
 |.seq x (.seq y (.block k (.seq z code)))=>(Da x y k z).map λp=>(p,code,cA x++(cA y++(cA z++cA code)))
 |_=>none
def acz (C:Ctx)(fn:Func)(s:Sig)(n:Nat)(ids:List Nat)(R:Array Oper->Bool->Snap->Option (Snap×List PI))(rm:Bool)(a:Code)(S:Snap):comp C fn s n ids R rm (.loop a) S=
 match zN a with
 |some q=>Db ids n q.1 q.2.2 (λS=>comp C fn s n ids R rm q.2.1 S) S
 |none=>
  match iter (λS=>comp C fn s n ids R rm a S) 8 S with
  |some r=>some ⟨.loop (kZ r.1 r.2.mr) (jS ids r.1 r.2.mo) r.2.pc,none,r.2.ex,r.2.mr,r.2.mo⟩
  |none=>some iw:=by
 by_cases h:∃x y k z code,a=.seq x (.seq y (.block k (.seq z code)))
 .obtain⟨x,y,k,z,code,rfl⟩:=h
  conv=>lhs;unfold comp
  simp only[zN];cases Da x y k z<;>rfl
 .have e:zN a=none:=by
   unfold zN;split
   .rename_i x y k z code;exact absurd ⟨x,y,k,z,code,rfl⟩ h
   .rfl
  rw[e];rw[comp];intro x y k z code e;exact h ⟨x,y,k,z,code,e⟩
def subs:Code->List Code
 |.seq a b=>.seq a b::(subs a++subs b)
 |.cond c a b=>.cond c a b::(subs a++subs b)
 |.block i a=>.block i a::subs a
 |.loop a=>.loop a::subs a
 |.rangeFunc g ps a b=>.rangeFunc g ps a b::(subs a++subs b)
 |c=>[c]
def aAR (c:Code):c∈subs c:=by cases c<;>simp[subs]
def aKe {a code:Code}{p:MP}{ws:List Nat}(h:zN a=some (p,code,ws)):code∈subs a:=by
 unfold zN at h;split at h
 .simp only[aB] at h;obtain⟨q,_,e⟩:=h;cases e;simp[subs,aAR]
 .cases h
def PS (C:Ctx)(n:Nat)(ids:List Nat)(Z:aO)(R:Array Oper->Bool->Snap->Option (Snap×List PI)):Prop:=
 ∀(id:Nat) (ops:Array Oper) (draw:Bool) (S:Snap) (r:Snap×List PI),R ops draw S=some r->
  ∀(rd:Option Nat) (w0:World) (σ0:Base) (O O':Env) (a:Act) (w:World) (Q:Exit->Act->World->Prop),CtxOK C σ0->ur C Z w0 σ0->a.tmps.size=n->Good C w0 σ0 (S.st ids) O (λ_=>False) a w->PI.runs Z r.2 O=some O'->
   (∀a' w',SameBut (Ci ops) a a'->Good C w0 σ0 (r.1.st ids) O' (λ_=>False) a' w'->Q .normal a' w')->(Code.region id ops draw).wpIn (FR rd) 0 C.P Q a w
section
variable {C:Ctx} {O O':Env} {V:Im} {own:Nat->Option Nat} {hv:Nat->Value} {w0:World} {σ0:Base} {A:Nat->Prop} {a:Act} {w:World} {Z:aO} {n:Nat} {ids:List Nat} {fn:Func} {s:Sig}
 {R:Array Oper->Bool->Snap->Option (Snap×List PI)}
def iz (C:Ctx)(w0:World)(σ0:Base)(ids:List Nat)(fn:Func)(s:Sig)(rm:Bool)(wr:Nat->Prop)(a0:Act)(out:Option Snap)(ex:List (Nat×Snap))(x:Out):Exit->Act->World->Prop
 |.normal,a,w=>∃O S,x=.next O/\out=some S/\SameBut wr a0 a/\Good C w0 σ0 (S.st ids) O (λ_=>False) a w
 |.exit id,a,w=>∃O S,x=.exit id O/\id≠cN/\(id,S)∈ex/\SameBut wr a0 a/\Good C w0 σ0 (S.st ids) O (λ_=>False) a w
 |.ret,a,w=>match rm with
  |false=>∃d,x=.ret d/\sC C w0 σ0 fn s d a.tmps a.defers w/\SameBut wr a0 a
  |true=>∃O S,x=.exit cN O/\(cN,S)∈ex/\SameBut wr a0 a/\Good C w0 σ0 (S.st ids) O (λ_=>False) a w
 |_,_,_=>False
def Good.meet1 {x y:Snap}(h:Good C w0 σ0 (x.st ids) O A a w):Good C w0 σ0 ((x.meet y).st ids) O (λ_=>False) a w:=by
 obtain⟨V,own,hv,h⟩:=h;exact⟨V,own,hv,Snap.meet_ok1 h⟩
def Good.meet2 {x y:Snap}(h:Good C w0 σ0 (y.st ids) O A a w):Good C w0 σ0 ((x.meet y).st ids) O (λ_=>False) a w:=by
 obtain⟨V,own,hv,h⟩:=h;exact⟨V,own,hv,Snap.meet_ok2 h⟩
def agp {x:Snap}{y:Option Snap}{M:Snap}(h:Good C w0 σ0 (x.st ids) O (λ_=>False) a w)(hm:nq (some x) y=some M):Good C w0 σ0 (M.st ids) O (λ_=>False) a w:=by
 cases y<;>simp[nq] at hm<;>subst hm
 .exact h
 .exact h.meet1
def agq {x:Option Snap}{y:Snap}{M:Snap}(h:Good C w0 σ0 (y.st ids) O (λ_=>False) a w)(hm:nq x (some y)=some M):Good C w0 σ0 (M.st ids) O (λ_=>False) a w:=by
 cases x<;>simp[nq] at hm<;>subst hm
 .exact h
 .exact h.meet2
def agr {x:Snap}{y:Option Snap}:∃M,nq (some x) y=some M:=by cases y<;>simp[nq]
def ags {x:Option Snap}{y:Snap}:∃M,nq x (some y)=some M:=by cases x<;>simp[nq]
def MN {id:Nat}:∀(l:List (Nat×Snap)) {x:Snap},Good C w0 σ0 (x.st ids) O (λ_=>False) a w->∃M,p9 id l (some x)=some M/\Good C w0 σ0 (M.st ids) O (λ_=>False) a w
 |[],x,h=>⟨x,rfl,h⟩
 |y::l,x,h=>by
  simp only[p9];cases Nat.beq y.1 id
  .exact MN l h
  .obtain⟨M,hM⟩:=@agr x (some y.2);simp only[zyy,hM];exact MN l (agp h hM)
def Uq {id:Nat}{S:Snap}(h:Good C w0 σ0 (S.st ids) O (λ_=>False) a w):∀(l:List (Nat×Snap)) (x:Option Snap),(id,S)∈l->∃M,p9 id l x=some M/\Good C w0 σ0 (M.st ids) O (λ_=>False) a w
 |y::l,x,hm=>by
  simp only[p9];rcases cv.1 hm with e|hm
  .subst e;simp only[lu,zyy];obtain⟨M,hM⟩:=@ags x S;rw[hM];exact MN l (agq h hM)
  .exact Uq h l _ hm
def GK {step:Snap->Option Res2}:∀(k:Nat) {S:Snap} {r:Snap×Res2},iter step k S=some r->
 step r.1=some r.2/\(∀T,r.2.out=some T->r.1.meet T=r.1)/\∀{O:Env} {a:Act} {w:World},Good C w0 σ0 (S.st ids) O (λ_=>False) a w->Good C w0 σ0 (r.1.st ids) O (λ_=>False) a w
 |0,S,r,h=>by simp[iter] at h
 |k+1,S,r,h=>by
  simp only[iter,az] at h;obtain⟨q,hq,h⟩:=h;split at h
  .rename_i ho;cases h;exact⟨hq,λT hT=>by simp[ho] at hT,λg=>g⟩
  .rename_i T ho;cases hb:(S.meet T).beq S<;>simp only[hb,zyy,zyx] at h
   .obtain⟨h1,h2,h3⟩:=GK k h;exact⟨h1,h2,λg=>h3 g.meet1⟩
   .cases h;refine⟨hq,λT' hT=>?_,λg=>g⟩;simp only[ho,bj] at hT;subst hT;exact Snap.beq_eq _ _ hb
def afy {step:Snap->Option Res2}{hv:Nat->Value}:∀(k:Nat) {S:Snap} {r:Snap×Res2},iter step k S=some r->Inv C (S.st ids) O V own hv w0 σ0 (λ_=>False) a w->Inv C (r.1.st ids) O V own hv w0 σ0 (λ_=>False) a w
 |0,S,r,h,_=>by simp[iter] at h
 |k+1,S,r,h,i=>by
  simp only[iter,az] at h;obtain⟨q,hq,h⟩:=h;split at h
  .cases h;exact i
  .rename_i T ho;cases hb:(S.meet T).beq S<;>simp only[hb,zyy,zyx] at h
   .exact afy k h (Snap.meet_ok1 i)
   .cases h;exact i
def Good.joined {M:Snap}{m:Nat}{mo mr' mo':List Nat}(h:Good C w0 σ0 (M.st ids) O' (λ_=>False) a w)(hb:O.but O' mr' mo')(h1:∀t,t∈mr'->aU m t=true)(h2:∀j,j∈mo'->j∈mo):
 Good C w0 σ0 (M.st ids) (O.join (kZ M m) (jS ids M mo) O') (λ_=>False) a w:=by
 obtain⟨V,own,hv,h⟩:=h;refine⟨V,own,hv,h.env (Snap.noOpt _ _) (λt ht=>?_) (λj hj=>?_)⟩
 .simp only[Env.join,Env.put,vf];split
  .rfl
  .rename_i hm;refine(hb.r t λGb=>hm ?_).symm;have af:t<M.rs.length:=by
        refine abm λhle=>?_;simp only[Snap.st,aH,j7 hle,Option.getD_none,cG,isNone] at ht;cases ht
   exact dK.2 ⟨fR.2 af,by rw[h1 t Gb];simpa [Snap.st] using ht⟩
 .simp only[Env.join,Env.put,vf];split
  .rfl
  .rename_i hm;refine(hb.o j λGb=>hm ?_).symm;exact dK.2 ⟨h2 j Gb,by simpa [Snap.st] using hj⟩
def MO {S:Snap}{m t:Nat}(h:t∈kZ S m):aU m t=true:=by
 have:=(dK.1 h).2;simp only[au] at this;exact this.1
def Dc {S:Snap}{l:List Nat}{j:Nat}(h:j∈jS ids S l):j∈l:=(dK.1 h).1
def ab7 {id:Nat}{q:Res2}(h:(∀t,t∈q.pc.modR->aU q.mr t=true)/\∀j,j∈q.pc.modO->j∈q.mo):(∀t,t∈(gV ids id q).pc.modR->aU (gV ids id q).mr t=true)/\∀j,j∈(gV ids id q).pc.modO->j∈(gV ids id q).mo:=by
 unfold gV;cases hm:p9 id q.ex q.out<;>simp only
 .simpa [PC.modR,PC.modO] using h
 .refine⟨λt ht=>?_,λj hj=>?_⟩
  .simp only[PC.modR,dZ] at ht;exact ht.elim MO (h.1 t)
  .simp only[PC.modO,dZ] at hj;exact hj.elim Dc (h.2 j)
def axe {p:MP}{ws:List Nat}{f:Snap->Option Res2}{S:Snap}{r:Res2}(h:Db ids n p ws f S=some r):(∀t,t∈r.pc.modR->aU r.mr t=true)/\∀j,j∈r.pc.modO->j∈r.mo:=by
 unfold Db at h;split at h
 case h_2=>cases h;exact nB
 split at h
 case h_2=>cases h;exact nB
 simp only at h;split at h
 case h_2=>cases h;exact nB
 rw[qz] at h;split at h
 .cases h;refine⟨λt ht=>by simp[PC.modR] at ht,λj hj=>?_⟩;simp only[PC.modO,vD] at hj;exact Dc hj
 .cases h;exact nB
def vP:∀(c:Code) {rm:Bool} {S:Snap} {r:Res2},comp C fn s n ids R rm c S=some r->(∀t,t∈r.pc.modR->aU r.mr t=true)/\∀j,j∈r.pc.modO->j∈r.mo:=by
 intro c
 induction c with
 |skip=>intro rm S r h;simp only[comp,bj] at h;subst h;simp[PC.modR,PC.modO]
 |region id ops draw=>
  intro rm S r h;simp only[comp,aB] at h;obtain⟨q,_,rfl⟩:=h;exact⟨λt ht=>agi _ ht,λj hj=>axm _ hj⟩
 |seq x y jP zC=>
  intro rm S r h;simp only[comp,az] at h;obtain⟨q,hq,h⟩:=h;split at h
  .cases h;exact jP hq
  .simp only[aB] at h;obtain⟨p,hp,rfl⟩:=h;refine⟨λt ht=>?_,λj hj=>?_⟩
   .simp only[PC.modR,dZ] at ht;rw[gU,j5];exact ht.imp ((jP hq).1 t) ((zC hp).1 t)
   .simp only[PC.modO,dZ] at hj;rw[rF];exact hj.imp ((jP hq).2 j) ((zC hp).2 j)
 |cond c x y jP zC=>
  intro rm S r h;simp only[comp] at h;split at h
  case h_2=>cases h;exact nB
  rename_i e _;simp only[az,aB] at h;obtain⟨q,hq,p,hp,rfl⟩:=h;cases hm:nq q.out p.out<;>simp only[hm]
  .refine⟨λt ht=>?_,λj hj=>?_⟩
   .simp only[PC.modR,dZ,xW] at ht;rw[gU,j5];exact ht.imp ((jP hq).1 t) ((zC hp).1 t)
   .simp only[PC.modO,dZ,xW] at hj;rw[rF];exact hj.imp ((jP hq).2 j) ((zC hp).2 j)
  .refine⟨λt ht=>?_,λj hj=>?_⟩
   .simp only[PC.modR,dZ] at ht;rw[gU,j5];rcases ht with(ht|ht)|ht
    .have:=MO ht;rw[gU,j5] at this;exact this
    .exact .inl ((jP hq).1 t ht)
    .exact .inr ((zC hp).1 t ht)
   .simp only[PC.modO,dZ] at hj;rcases hj with(hj|hj)|hj
    .exact Dc hj
    .exact rF.2 (.inl ((jP hq).2 j hj))
    .exact rF.2 (.inr ((zC hp).2 j hj))
 |block id x jP=>
  intro rm S r h;simp only[comp] at h;cases cJ:Nat.beq id cN<;>simp only[cJ,zyy,zyx] at h
  case true=>cases h;exact nB
  simp only[aB] at h;obtain⟨q,hq,rfl⟩:=h;exact ab7 (jP hq)
 |loop x jP=>
  intro rm S r h;rw[acz] at h;split at h
  .exact axe h
  split at h
  case h_2=>cases h;exact nB
  rename_i q hq;cases h;have hs:=(GK (C:=C) (w0:=default) (σ0:=Base.mk0 ⟨λ_ _=>none,λ_=>none⟩ 0) (ids:=ids) 8 hq).1;refine⟨λt ht=>?_,λj hj=>?_⟩
  .simp only[PC.modR,dZ] at ht;exact ht.elim MO ((jP hs).1 t)
  .simp only[PC.modO,dZ] at hj;exact hj.elim Dc ((jP hs).2 j)
 |exit id=>
  intro rm S r h;simp only[comp] at h;cases cJ:Nat.beq id cN<;>simp only[cJ,zyy,zyx] at h<;>cases h
  .simp[PC.modR,PC.modO]
  .exact nB
 |ret=>
  intro rm S r h;simp only[comp] at h;cases rm<;>simp only[zyy,zyx] at h
  case true=>cases h;simp[PC.modR,PC.modO]
  split at h
  .cases h;simp[PC.modR,PC.modO]
  .cases h;exact nB
 |rangeFunc g ps x y _ _=>
  intro rm S r h;simp only[comp] at h;split at h
  case h_2=>cases h;exact nB
  split at h
  case h_2=>cases h;exact nB
  split at h
  case h_2=>cases h;exact nB
  rename_i q hq;rw[qz] at h;split at h
  .cases h;refine⟨λt ht=>?_,λj hj=>?_⟩
   .simp[PC.modR,PI.modR] at ht;subst ht;exact sG _
   .simp only[PC.modO,PI.modO,vF,List.flatMap_nil,vD,xW] at hj;exact(dK.1 hj).1
  .cases h;exact nB
 |_=>intro rm S r h;simp only[comp,bj] at h;subst h;exact nB
def iz.mono {rm:Bool}{wr:Nat->Prop}{a0 a1:Act}{out aiw:Option Snap}{ex ex':List (Nat×Snap)}{x:Out}{e:Exit}(h:iz C w0 σ0 ids fn s rm wr a0 out ex x e a w)(he:∀y,y∈ex->y∈ex')(hs:SameBut wr a1 a0)
 (ho:e=.normal->aiw=out):iz C w0 σ0 ids fn s rm wr a1 aiw ex' x e a w:=by
 cases e with
 |normal=>obtain⟨O,S,h1,h2,h3,h4⟩:=h;exact⟨O,S,h1,by rw[ho rfl];exact h2,hs.trans h3,h4⟩
 |exit id=>obtain⟨O,S,h1,h2,h3,h4,h5⟩:=h;exact⟨O,S,h1,h2,he _ h3,hs.trans h4,h5⟩
 |ret=>
  cases rm with
  |false=>obtain⟨d,h1,h2,h3⟩:=h;exact⟨d,h1,h2,hs.trans h3⟩
  |true=>obtain⟨O,S,h1,h3,h4,h5⟩:=h;exact⟨O,S,h1,he _ h3,hs.trans h4,h5⟩
 |_=>exact h.elim
def acV {body:Env->Option Out}{O:Env}{ps lo:List Nat}{rt:Option PE}{x:Out}:∀{xs vo:List D},gW body O ps lo rt xs vo=some x->
 ∃(m:Nat) (nE:Nat->List D),m<=xs.length/\nE 0=vo/\
  (∀i,i<m->∃y O',xs[i]?=some y/\body (O.put ps (partsOf ps y) lo (nE i))=some (.next O')/\lo.map O'.o=nE (i+1))/\
  ((m=xs.length/\x=.next (O.put [] [] lo (nE m)))\/
   (m<xs.length/\∃y id O',xs[m]?=some y/\body (O.put ps (partsOf ps y) lo (nE m))=some (.exit id O')/\
    ((id≠cN/\x=.exit id (O.put [] [] lo (lo.map O'.o)))\/(id=cN/\∃e,rt=some e/\x=.ret (e.ev (O.put [] [] lo (lo.map O'.o)))))))
 |[],vo,h=>by
  simp only[gW,bj] at h;exact⟨0,λ_=>vo,aZ _,rfl,λi hi=>by omega,.inl ⟨rfl,h.symm⟩⟩
 |y::xs,vo,h=>by
  simp only[gW] at h;split at h
  .rename_i O' hb;obtain⟨m,nE,h1,h2,h3,h4⟩:=acV h;refine⟨m+1,λi=>match i with|0=>vo|i+1=>nE i,by simp;omega,rfl,λi hi=>?_,?_⟩
   .cases i with
    |zero=>exact⟨y,O',rfl,hb,h2.symm⟩
    |succ i=>simpa using h3 i (by omega)
   .rcases h4 with⟨e1,e2⟩|⟨e1,z,id,ρ2,e2,e3,e4⟩
    .exact .inl ⟨by simp[e1],e2⟩
    .exact .inr ⟨by simp;omega,z,id,ρ2,by simpa using e2,e3,e4⟩
  .rename_i id O' hb;refine⟨0,λ_=>vo,kf _,rfl,λi hi=>by omega,.inr ⟨by simp,y,id,O',rfl,hb,?_⟩⟩;cases cJ:Nat.beq id cN<;>simp only[cJ,zyy,zyx] at h
   .refine .inl ⟨λe=>?_,(uo h).symm⟩;subst e;simp at cJ
   .simp only[aB] at h;obtain⟨e,he,e2⟩:=h;exact .inr ⟨aD cJ,e,he,e2.symm⟩
  .cases h
def ab4 {l:List Nat}{t:Nat}(h:t∈l):aU (zP l) t=true:=by
 induction l with
 |nil=>cases h
 |cons x l ih=>
  have e:zP (x::l)=Nat.lor (iI x) (zP l):=rfl;rw[e,gU];rcases cv.1 h with e|e
  .subst e;rw[sG];rfl
  .rw[ih e];simp
def Uo (m:Nat):∀(l:List Sh) (k t:Nat),(uY m k l).getD t .none=if aU m (k+t)=true then .none else l.getD t .none
 |[],k,t=>by simp[uY]
 |s::l,k,0=>by
  simp only[uY,qD,l9];cases aU m k<;>rfl
 |s::l,k,t+1=>by
  simp only[uY,A0];rw[Uo m l (k+1) t,show k+1+t=k+(t+1) by omega]
def GX (m:Nat)(S:Snap)(t:Nat):((S.mask m).st ids).r t=if aU m t=true then .none else(S.st ids).r t:=by
 show cG ((uY m 0 S.rs).getD t .none)=if aU m t=true then .none else cG (S.rs.getD t .none);rw[Uo,ke];split<;>rfl
def axk {m:Nat}{x S:Snap}{t:Nat}(h:aU m t=true):((x.meet (S.mask m)).st ids).r t=.none:=by
 show cG ((List.zipWith jT x.rs (uY m 0 S.rs)).getD t .none)=.none;rcases Po (f:=jT) x.rs (uY m 0 S.rs) t with h0|⟨s,u,h1,h2,h3⟩
 .rw[h0];rfl
 .rw[Uo,ke,if_pos h] at h2;subst h2;rw[h3];cases s<;>rfl
def Inv.maskR {S:Snap}{hv:Nat->Value}(h:Inv C (S.st ids) O V own hv w0 σ0 A a w)(m:Nat):Inv C ((S.mask m).st ids) O V own hv w0 σ0 (λ_=>False) a w:=by
 have hc:Compat (S.st ids) hv ((S.mask m).st ids) hv:=⟨λ_=>aZ _,λ_ _=>rfl⟩
 refine h.weaken (λt=>?_) (λj=>?_) (Snap.noOpt _ _) (λj hj=>⟨hj,rfl⟩)
 .refine aG.mono' (O:=O) (.refl V) hc (Snap.noOpt _ _ t) ?_;rw[GX];split
  .trivial
  .exact h.regs t
 .exact(h.objs j).mono (.refl V) hc rfl rfl (λk hk=>⟨hk,rfl⟩)
def XF:∀(ps:List Nat) (ys:List Ty) (l:List Sh),ps.length=ys.length->kA ps=true->∀t,(tZ ps ys l).getD t .none=.none\/(t∉ps/\(tZ ps ys l).getD t .none=l.getD t .none)\/∃(i:Nat) (y:Ty),ps[i]?=some t/\ys[i]?=some y/\(tZ ps ys l).getD t .none=.dat y
 |[],ys,l,_,_,t=>.inr (.inl ⟨by simp,by cases ys<;>rfl⟩)
 |p::ps,[],l,h,_,t=>by simp at h
 |p::ps,y::ys,l,h,hn,t=>by
  have me:=rH hn;rw[qE] at me;have dP:kA ps=true:=by
   simp only[kA,au] at hn;exact hn.2
  show(tZ ps ys (l.set p (.dat y))).getD t .none=_\/_\/_;rcases XF ps ys (l.set p (.dat y)) (by simpa using h) dP t with e|⟨e1,e2⟩|⟨i,z,e1,e2,e3⟩
  .exact .inl e
  .by_cases hp:t=p
   .subst hp;by_cases af:t<l.length
    .exact .inr (.inr ⟨0,y,rfl,rfl,by show(tZ ps ys (l.set t (.dat y))).getD t .none=_;rw[e2];simp[aH,af]⟩)
    .left;rw[e2];simp[aH,af]
   .refine .inr (.inl ⟨by simp[hp,e1],?_⟩);show(tZ ps ys (l.set p (.dat y))).getD t .none=_;rw[e2];simp only[aH,Jf];rw[if_neg (λe=>hp e.symm)]
  .exact .inr (.inr ⟨i+1,z,by simpa using e1,by simpa using e2,e3⟩)
def ny:List Nat->List Value->Array Value->Array Value
 |p::ps,v::vs,T=>ny ps vs (T.setIfInBounds p v)
 |_,_,T=>T
def aAu (ps:Array Nat)(vs:Array Value)(T:Array Value):(ps.zip vs).foldl (λT x=>T.setIfInBounds x.1 x.2) T=ny ps.toList vs.toList T:=by
 rw[<-Array.foldl_toList,Array.toList_zip];generalize ps.toList=l;generalize vs.toList=k
 induction l generalizing k T with
 |nil=>rfl
 |cons p l ih=>
  cases k with
  |nil=>rfl
  |cons v k=>simpa [ny] using ih (T.setIfInBounds p v) k
def aka:∀(ps:List Nat) (vs:List Value) (T:Array Value),(ny ps vs T).size=T.size
 |[],vs,T=>by cases vs<;>rfl
 |p::ps,[],T=>rfl
 |p::ps,v::vs,T=>by simp[ny,aka ps vs]
def ON:∀(ps:List Nat) (vs:List Value) (T:Array Value) (t:Nat),t∉ps->(ny ps vs T).getD t undef=T.getD t undef
 |[],vs,T,t,_=>by cases vs<;>rfl
 |p::ps,[],T,t,_=>rfl
 |p::ps,v::vs,T,t,h=>by
  simp only[cv,not_or] at h;simp only[ny];rw[ON ps vs _ t h.2];simp only[gp,Ej];rw[if_neg (λe=>h.1 e.symm)]
def aj9:∀(ps:List Nat) (vs:List Value) (T:Array Value) (i t:Nat),ps.Nodup->ps.length=vs.length->(∀p,p∈ps->p<T.size)->ps[i]?=some t->(ny ps vs T).getD t undef=vs.getD i undef
 |p::ps,v::vs,T,0,t,hn,hl,af,h=>by
  simp at h;subst h;rw[qE] at hn;simp only[ny];rw[ON ps vs _ p hn.1];simp[Ej,af p (fQ ..)]
 |p::ps,v::vs,T,i+1,t,hn,hl,af,h=>by
  rw[qE] at hn;simp only[ny];have:=aj9 ps vs (T.setIfInBounds p v) i t hn.2 (by simpa using hl) (λq hq=>by simpa using af q (fy _ hq)) (by simpa using h);simpa using this
 |p::ps,[],T,i,t,hn,hl,af,h=>by simp at hl
 |[],vs,T,i,t,hn,hl,af,h=>by simp at h
def Dt (f:Nat->D):∀(ps:List Nat) (vs:List D) (t:Nat),t∉ps->putL f ps vs t=f t
 |[],vs,t,_=>by cases vs<;>rfl
 |p::ps,[],t,_=>rfl
 |p::ps,v::vs,t,h=>by
  simp only[cv,not_or] at h;simp only[putL,bJ _ _ h.1];exact Dt f ps vs t h.2
def VR (f:Nat->D):∀(ps:List Nat) (vs:List D) (i t:Nat),ps.Nodup->ps.length=vs.length->ps[i]?=some t->putL f ps vs t=vs.getD i .none
 |p::ps,v::vs,0,t,hn,hl,h=>by
  simp at h;subst h;simp[putL,aS]
 |p::ps,v::vs,i+1,t,hn,hl,h=>by
  rw[qE] at hn;have ht:t∈ps:=j9 (by simpa using h);have ay:t≠p:=λe=>hn.1 (e▸ht);simp only[putL,bJ _ _ ay];have:=VR f ps vs i t hn.2 (by simpa using hl) (by simpa using h);simpa using this
 |p::ps,[],i,t,hn,hl,h=>by simp at hl
 |[],vs,i,t,hn,hl,h=>by simp at h
def ayn (ps:List Nat)(ds:List D)(i:Nat)(h:i<ps.length):(partsOf ps (.tup ds)).getD i .none=ds.getD i .none:=by
 simp[partsOf,aH,h,D.tget]
def aym (ps:List Nat)(x:D):(partsOf ps x).length=ps.length:=by simp[partsOf]
def Inv.startR {S:Snap}{hv:Nat->Value}(h:Inv C (S.st ids) O V own hv w0 σ0 A a w){ps:List Nat}{ys:List Ty}{args:List Value}{ds:List D}{lo:List Nat}{vo:List D}(hl:ps.length=ys.length)(bp:kA ps=true)(af:∀p,p∈ps->p<a.tmps.size)(ha:qw C V ys args ds)
 (hρ:O=O'.put [] [] lo vo):Inv C ((S.start ps ys).st ids) (O'.put ps (partsOf ps (.tup ds)) lo vo) V own hv w0 σ0 (λ_=>False) {tmps:=ny ps args a.tmps,defers:=[]} w:=by
 obtain⟨a1,a2,a3⟩:=ha;have hn:=rH bp;have hc:Compat (S.st ids) hv ((S.start ps ys).st ids) hv:=⟨λ_=>aZ _,λ_ _=>rfl⟩
 have ho:∀j,(O'.put ps (partsOf ps (.tup ds)) lo vo).o j=O.o j:=λj=>by rw[hρ];rfl
 refine⟨trivial,h.ok,h.le,h.old,h.newc,h.newm,h.below,h.bw,h.owns,λt=>?_,λj=>(h.objs j).mono (.refl V) hc rfl (ho j) (λk hk=>⟨hk,rfl⟩),λt gs s e=>absurd e (Snap.noOpt _ _ t gs s),?_⟩
 .show aG C _ _ V hv (cG ((tZ ps ys (S.rs.map uP)).getD t .none)) ((ny ps args a.tmps).getD t undef) (putL O'.r ps (partsOf ps (.tup ds)) t);rcases XF ps ys (S.rs.map uP) hl bp t with e|⟨e1,e2⟩|⟨i,y,e1,e2,e3⟩
  .rw[e];trivial
  .rw[e2,ON _ _ _ _ e1,Dt _ _ _ _ e1];have hr:=h.regs t;change aG C _ O V hv (cG (S.rs.getD t .none)) _ _ at hr;have hρr:O.r t=O'.r t:=by rw[hρ];show putL O'.r [] [] t=_;rfl
   rw[hρr] at hr;have e3:(S.rs.map uP).getD t .none=uP (S.rs.getD t .none):=by
        simp only[aH,cq];cases S.rs[t]?<;>rfl
   rw[e3];generalize S.rs.getD t .none=s at hr;cases s with
   |yv=>trivial
   |opt gs s=>trivial
   |none=>trivial
   |fclo f c=>exact aG.mono' (.refl V) hc (λ_ _ e=>by cases e) hr
   |agg l=>exact aG.mono' (.refl V) hc (λ_ _ e=>by cases e) hr
   |dat t=>exact hr
   |obj j v=>exact aG.mono' (.refl V) hc (λ_ _ e=>by cases e) hr
   |ptr j v o=>exact aG.mono' (.refl V) hc (λ_ _ e=>by cases e) hr
   |eptr j v o q=>exact aG.mono' (.refl V) hc (λ_ _ e=>by cases e) hr
  .rw[e3];have hi:i<ps.length:=(eO.1 e1).1;rw[aj9 ps args a.tmps i t hn (by omega) af e1,VR _ ps _ i t hn (by rw[aym]) e1,ayn _ _ _ hi];exact a3 i y e2
 .obtain⟨t,fx,cx,h1,h2⟩:=h.frame;exact⟨t,fx,cx,h1,λj hj=>⟨(h2 j hj).1,by rw[ho j];exact(h2 j hj).2⟩⟩
def yc (C:Ctx)(Z:aO)(fn:Func)(s:Sig)(n:Nat)(ids:List Nat)(R:Array Oper->Bool->Snap->Option (Snap×List PI))(N:Nat)(c:Code):Prop:=
 ∀(rm:Bool) (S:Snap) (r:Res2),comp C fn s n ids R rm c S=some r->∀(rd:Option Nat) (w0:World) (σ0:Base) (wr:Nat->Prop) (O:Env) (x:Out) (a:Act) (w:World),(rm=false->rd=none/\σ0.fin)->CtxOK C σ0->ur C Z w0 σ0->(∀t,t∈cA c->wr t)->a.tmps.size=n->
  Good C w0 σ0 (S.st ids) O (λ_=>False) a w->r.pc.ev Z N O=some x->c.wpIn (FR rd) 0 C.P (iz C w0 σ0 ids fn s rm wr a r.out r.ex x) a w
structure Seg (V:Im) (own:Nat->Option Nat) (w:World) (V':Im) (own':Nat->Option Nat) (w':World):Prop where
 le:V.le V'
 below:Below 0 w w'
 same:∀k,k<w.heap.size->own k=none->w'.heap[k]?=w.heap[k]?
 ow:∀k j,own' k=some j->(∃i,own k=some i)\/w.heap.size<=k
 imm:∀k,((∃o x,V'.c k o=some x)\/∃x,V'.m k=some x)->(∃o x,V.c k o=some x)\/(∃x,V.m k=some x)\/(∃i,own k=some i)\/w.heap.size<=k
structure Free (L:Nat) (V:Im) (own:Nat->Option Nat):Prop where
 own:own L=none
 c:∀o,V.c L o=none
 m:V.m L=none
def Free.seg {L:Nat}{V':Im}{own':Nat->Option Nat}{w':World}(h:Free L V own)(hL:L<w.heap.size)(k:Seg V own w V' own' w'):Free L V' own':=by
 have F1:¬((∃o x,V'.c L o=some x)\/∃x,V'.m L=some x):=λe=>by
  rcases k.imm L e with⟨o,x,e⟩|⟨x,e⟩|⟨i,e⟩|e
  .rw[h.c o] at e;cases e
  .rw[h.m] at e;cases e
  .rw[h.own] at e;cases e
  .omega
 refine⟨?_,λo=>?_,?_⟩
 .cases e:own' L with
  |none=>rfl
  |some j=>
   rcases k.ow L j e with⟨i,e⟩|e
   .rw[h.own] at e;cases e
   .omega
 .cases e:V'.c L o with
  |none=>rfl
  |some x=>exact absurd (.inl ⟨o,x,e⟩) F1
 .cases e:V'.m L with
  |none=>rfl
  |some x=>exact absurd (.inr ⟨x,e⟩) F1
def aln (C:Ctx)(w0:World)(σ0:Base)(ids:List Nat)(wr:Nat->Prop)(a0:Act)(V:Im)(own:Nat->Option Nat)(w:World)(out:Option Snap)(ex:List (Nat×Snap))(x:Out)(e:Exit)(a':Act)(w':World):Prop:=
 ∃O' S' V' own' hv',Inv C (S'.st ids) O' V' own' hv' w0 σ0 (λ_=>False) a' w'/\Seg V own w V' own' w'/\SameBut wr a0 a'/\
  match e with
  |.normal=>x=.next O'/\out=some S'
  |.exit id=>x=.exit id O'/\id≠cN/\(id,S')∈ex
  |.ret=>x=.exit cN O'/\(cN,S')∈ex
  |_=>False
def aj4 {N:Nat}{c:Code}(hc:yc C Z fn s n ids R N c){S:Snap}{r:Res2}(hr:comp C fn s n ids R true c S=some r)(mj:C.yl=none)(hC:CtxOK C σ0){wr:Nat->Prop}{O:Env}{x:Out}{hv:Nat->Value}(h:Inv C (S.st ids) O V own hv w0 σ0 (λ_=>False) a w)
 (gD:∀t,t∈cA c->wr t) (hn:a.tmps.size=n) (he:r.pc.ev Z N O=some x) (L:Nat):c.wpIn (FR (some L)) 0 C.P (aln C w0 σ0 ids wr a V own w r.out r.ex x) a w:=by
 obtain⟨t,fx,cx,eE,ht⟩:=h.frame;have h1:=h.toRnd (X:=λ_=>False) ht;refine wpIn_mono (hc true S r hr (some L) w0 (σ0.rnd V own w t λ_=>False) wr O x a w (λe=>by cases e) (hC.mono h.le) (λJ ys e=>by rw[mj] at e;cases e) gD hn ⟨_,_,_,h1⟩ he) λe a' w' ho=>?_
 have main:∀{S':Snap} {O':Env},SameBut wr a a'->Good C w0 (σ0.rnd V own w t λ_=>False) (S'.st ids) O' (λ_=>False) a' w'->∃V' own' hv',Inv C (S'.st ids) O' V' own' hv' w0 σ0 (λ_=>False) a' w'/\Seg V own w V' own' w'/\SameBut wr a a':=by
  intro S' O' hs hg;obtain⟨V',own',hv',h2⟩:=hg;exact⟨V',own',hv',h.ofRnd eE (λ_ _=>id) h2,⟨h2.le,h.rndBelow h2,λk hk ho=>Inv.rndSame h.ok h2 hk ho id,λk j e=>Inv.rndOwn h2 e id,λk e=>Inv.rndC h2 e id⟩,hs⟩
 cases e with
 |normal=>
  obtain⟨O',S',e1,e2,e3,e4⟩:=ho;obtain⟨V',own',hv',g1,g2,g3⟩:=main e3 e4;exact⟨O',S',V',own',hv',g1,g2,g3,e1,e2⟩
 |exit id=>
  obtain⟨O',S',e1,e0,e2,e3,e4⟩:=ho;obtain⟨V',own',hv',g1,g2,g3⟩:=main e3 e4;exact⟨O',S',V',own',hv',g1,g2,g3,e1,e0,e2⟩
 |ret=>
  obtain⟨O',S',e1,e2,e3,e4⟩:=ho;obtain⟨V',own',hv',g1,g2,g3⟩:=main e3 e4;exact⟨O',S',V',own',hv',g1,g2,g3,e1,e2⟩
 |_=>exact ho.elim
def Inv.putL {L:Nat}{hv:Nat->Value}{S:St}{O:Env}(h:Inv C S O V own hv w0 σ0 A a w)(hL:w0.heap.size<=L)(hf:Free L V own)(hx:∀t fx cx,FrOK V own w0.heap.size σ0 w t fx cx->¬fx L)(o:Obj):Inv C S O V own hv w0 σ0 A a (w.putObj L o):=
 h.keep (X:=λk=>k≠L) ⟨rfl,rfl,rfl,by simp,λk hk=>by omega⟩ (λk hk=>World.putObj_heap_other hk) (λk hk=>by omega) (λk j e1 e2=>by subst e2;rw[hf.own] at e1;cases e1) (λk o v e1 e2=>by subst e2;rw[hf.c] at e1;cases e1)
  (λk v e1 e2=>by subst e2;rw[hf.m] at e1;cases e1) (λt fx cx eE k hk e=>by subst e;exact hx t fx cx eE hk)
def aEt {o:Oper}{L:Nat}{x:Operand}{aa:Array Operand}{ts:Array TypeId}{r:Loop}(eG:o.op=.call {callee:=.value x,args:=aa,argTypes:=ts})(hx:a.eval x=.func (.yield L) #[] #[])(hL:w.heap[L]?=some (.loop r))(hs:aa.size=r.params.size):
 (execOp a.eval o).run C.P w=.ok (.round L r.fn ((r.params.zip (aa.map a.eval)).foldl (λtmps (t,v)=>tmps.setIfInBounds t v) r.tmps) r.assign r.body) w:=by
 have hy:=run_yield (P:=C.P) (args:=aa.map a.eval) hL (by simpa using hs);simp[execOp,eG,resolve,hx,Deferred.ofValue,invoke,hy]
def azk {g:Operand}{f:Nat}{vs:List Value}{L:Nat}(hf:∃fn,C.P.funcs[f]?=some fn/\fn.body.isSome=true/\(fn.name== "runtime.NumGoroutine")=false)(hg:a.eval g=.func (.func f) #[] vs.toArray):
 (resolve a.eval (rangeCall g L) 0).run C.P w=.ok {target:=.fn (.func f) vs.toArray,args:=#[.func (.yield L) #[] #[]]} w/\
 (invoke (.fn (.func f) vs.toArray) #[.func (.yield L) #[] #[]]).run C.P w=.ok (.enter f (#[.func (.yield L) #[] #[]]++vs.toArray)) w:=by
 obtain⟨fn,h1,h2,h3⟩:=hf;obtain⟨bd,gZ⟩:=abq.1 h2;have h4:¬fn.name= "runtime.NumGoroutine" :=by simpa using h3
 constructor
 .simp only[resolve,hg];simp[go_sem]
 .simp[invoke,callFunc,h1,gZ,h4]
def FrOK.enter {hv:Nat->Value}{S:St}{O:Env}(h:Inv C S O V own hv w0 σ0 A a w){t:D}{fx cx:Nat->Prop}(hf:FrOK V own w0.heap.size σ0 w t fx cx)(r:Loop):FrOK (V.mark w.heap.size) own w0.heap.size σ0 ((w.alloc (.deferred (some []))).alloc (.loop r)) t fx cx:=by
 have hb:=ac0 w (.deferred (some [])) (.loop r);have af:=σ0.lt _ _ _ _ hf.F;have cK:=σ0.sub _ _ _ _ hf.F;have zj:∀k x,(V.mark w.heap.size).m k=some x->V.m k=some x\/k=w.heap.size:=by
  intro k x e;simp only[Im.mark] at e;split at e
  .rename_i e2;exact .inr e2
  .exact .inl e
 refine⟨σ0.keep _ _ _ _ _ hf.F (hb.mono (kf _)) λk hk=>hb.block k (af k hk),hf.own,hf.c,λk x e hc=>?_,λk e hB hk=>?_⟩
 .rcases zj k x e with e|e
  .exact hf.m k x e hc
  .have:=af k (cK k hc);omega
 .rcases zj k _ e with e|e
  .exact hf.d k e hB hk
  .have:=af k hk;omega
structure RSt (C:Ctx) (w0:World) (σR:Base) (ids:List Nat) (ρ1:Env) (lo:List Nat) (aM:Act) (L:Nat) (W1:World) (σ1:Im) (rec:LoopState->Option Code->Loop) (xs:List D) (P:Nat->List D->Snap->LoopState->Option Code->Prop) (t:D) (fx cx:Nat->Prop) (w:World):Prop where
 lt:∀k,fx k->k<w.heap.size
 sub:∀k,cx k->fx k
 old:∀k,k<W1.heap.size->fx k
 ex:∃(i:Nat) (vo:List D) (Sx:Snap) (st:LoopState) (pe:Option Code) (V:Im) (own:Nat->Option Nat) (hv:Nat->Value),t=.list (xs.take i)/\P i vo Sx st pe/\Inv C (Sx.st ids) (ρ1.put [] [] lo vo) V own hv w0 σR (λ_=>False) aM w/\
  σ1.le V/\Free L V own/\w.heap[L]?=some (.loop (rec st pe))/\(∀k j,own k=some j->fx k)/\(∀k o x,V.c k o=some x->fx k)/\(∀k x,V.m k=some x->fx k)/\∀k,cx k↔((∃j,own k=some j)\/k=L)
def RSt.keep {σR:Base}{ρ1:Env}{lo:List Nat}{aM:Act}{L:Nat}{W1:World}{σ1:Im}{rec:LoopState->Option Code->Loop}{xs:List D}{P:Nat->List D->Snap->LoopState->Option Code->Prop}{t:D}{fx cx:Nat->Prop}{w w':World}
 (h0:w0.heap.size<=W1.heap.size) (hL:L<W1.heap.size) (hR:∀t f c w,σR.F t f c w->∀k,f k->k<W1.heap.size) (h:RSt C w0 σR ids ρ1 lo aM L W1 σ1 rec xs P t fx cx w) (hb:Below 0 w w') (hs:∀k,fx k->w'.heap[k]?=w.heap[k]?):
 RSt C w0 σR ids ρ1 lo aM L W1 σ1 rec xs P t fx cx w':=by
 obtain⟨i,vo,Sx,st,pe,V,own,hv,e1,e2,e3,e4,e5,e6,e7,e8,e9,e10⟩:=h.ex;refine⟨λk hk=>ly (h.lt k hk) hb.size,h.sub,h.old,i,vo,Sx,st,pe,V,own,hv,e1,e2,?_,e4,e5,(hs L (h.old L hL)).trans e6,e7,e8,e9,e10⟩;exact e3.keep (X:=fx) hb hs (λk hk=>h.old k (by omega)) e7 e8 e9 (λt f c hf k hk=>h.old k (hR _ _ _ _ hf.F k hk))
def Im.noM_m {V:Im}{k:Nat}{v:List (Value×Value)}(h:V.noM.m k=some v):V.m k=some v/\v≠cw:=by
 simp only[Im.noM] at h;split at h
 .cases h
 .rename_i ay;exact⟨h,λe=>ay (by rw[h,e])⟩
structure SegL (L:Nat) (V:Im) (own:Nat->Option Nat) (w:World) (V':Im) (own':Nat->Option Nat) (w':World):Prop where
 le:V.le V'
 below:Below 0 w w'
 same:∀k,k<w.heap.size->own k=none->k≠L->w'.heap[k]?=w.heap[k]?
 ow:∀k j,own' k=some j->(∃i,own k=some i)\/w.heap.size<=k
 imm:∀k,((∃o x,V'.c k o=some x)\/∃x,V'.m k=some x)->(∃o x,V.c k o=some x)\/(∃x,V.m k=some x)\/(∃i,own k=some i)\/w.heap.size<=k
def aiR (w:World)(L:Nat)(o:Obj):Below 0 w (w.putObj L o):=⟨rfl,rfl,rfl,by simp,λk hk=>by omega⟩
def Seg.round {L:Nat}{V' V'':Im}{own' aix:Nat->Option Nat}{w' ll:World}{o o':Obj}(h:Seg V own w V' own' w')(k:Seg V' own' (w'.putObj L o) V'' aix ll):SegL L V own w V'' aix (ll.putObj L o'):=by
 have aJ:=h.below.size;have wD:=k.below.size;simp only[World.putObj_size] at wD;refine⟨h.le.trans k.le,h.below.trans ((aiR _ _ _).trans (k.below.trans (aiR _ _ _))),λq hq ho hL=>?_,λq j e=>?_,λq e=>?_⟩
 .have h1:own' q=none:=by
   cases e:own' q with
   |none=>rfl
   |some j=>
    rcases h.ow q j e with⟨i,e⟩|e
    .rw[ho] at e;cases e
    .omega
  rw[World.putObj_heap_other hL,k.same q (by simp;omega) h1,World.putObj_heap_other hL,h.same q hq ho]
 .rcases k.ow q j e with⟨i,e⟩|e
  .exact h.ow q i e
  .simp only[World.putObj_size] at e;exact .inr (by omega)
 .rcases k.imm q e with e|e|⟨i,e⟩|e
  .exact h.imm q (.inl e)
  .exact h.imm q (.inr e)
  .rcases h.ow q i e with e|e
   .exact .inr (.inr (.inl e))
   .exact .inr (.inr (.inr e))
  .simp only[World.putObj_size] at e;exact .inr (.inr (.inr (by omega)))
def Env.put_self (O:Env)(lo:List Nat):O.put [] [] lo (lo.map O.o)=O:=by
 have h2:∀u,putL O.o lo (lo.map O.o) u=O.o u:=λu=>by rw[vf];split<;>rfl
 show Env.mk O.r (putL O.o lo (lo.map O.o))=O;rw[funext h2]
def azl {N:Nat}(ef:gR C Z){g:Operand}{ps:Array Tmp}{ca cb:Code}(bx:yc C Z fn s n ids R N ca)(dw:yc C Z fn s n ids R N cb):yc C Z fn s n ids R N (.rangeFunc g ps ca cb):=by
 intro rm S r hr rd w0 σ0 wr O x a w gA hC hY gD hn hg he;simp only[comp] at hr;split at hr
 case h_2=>cases hr;exact absurd he (nA _ _ _ _)
 rename_i aa rr e mj hu;split at hr
 case h_2=>cases hr;exact absurd he (nA _ _ _ _)
 rename_i ys oM;split at hr
 case h_2=>cases hr;exact absurd he (nA _ _ _ _)
 rename_i q hq;rw[qz] at hr;split at hr
 case isFalse=>cases hr;exact absurd he (nA _ _ _ _)
 rename_i y7;cases hr;simp only[au] at y7;obtain⟨⟨⟨hl,bp⟩,af⟩,zq⟩:=y7;have hl:=aD hl;have zq:=lx zq;obtain⟨hrd,km⟩:=gA rfl;subst hrd;obtain⟨hs,CI,_⟩:=GK (C:=C) (w0:=w0) (σ0:=σ0) (ids:=ids) 8 hq;simp only[az] at hs;obtain⟨ra,S8,hs⟩:=hs;split at hs
 case h_2=>cases hs
 rename_i S1 hao hax;simp only[aB] at hs;obtain⟨rb,hrb,ie⟩:=hs;have hma:=vP ca S8;have hmb:=vP cb hrb;obtain⟨q1,q2⟩:=q;simp only at S8 ie zq CI he ⊢;generalize pQ:aga ids (q1::q2.ex.map (·.2)) q2.mo=lo at he;generalize wy:((p9 cN q2.ex none).bind λM=>AA C fn s (M.st ids))=rt at he;have Gm:∃f caps d,e.ev O=.clo f caps/\Z f caps=some d/\gW (q2.pc.ev Z N) (O.setR n d) ps.toList lo rt d.l (lo.map O.o)=some x:=by
  simp only[PC.ev,PI.runs,PI.run,holds,List.all_nil,zyy] at he;cases bM:e.ev O with
  |clo f caps=>
   rw[bM] at he;simp only[PE.evs,xW] at he;cases hΦ:Z f caps with
   |none=>rw[hΦ] at he;simp at he
   |some d=>
    rw[hΦ] at he;simp only[lC,sB,PE.ev,Env.setR,aS] at he;exact⟨f,caps,d,rfl,hΦ,he⟩
  |_=>rw[bM] at he;simp at he
 obtain⟨f,caps,d,bM,hΦ,he⟩:=Gm;obtain⟨V,own,hv,i⟩:=hg;have hx:=cu (gs:=[]) i hC rfl hu;rw[bM] at hx;generalize hgv:a.eval g=gv at hx;generalize br:Ty.fn aa rr=ty at hx;cases hx with
 |fn f cs vs ds eQ h1 h2 aP=>
 cases br;obtain⟨hfn,asn⟩:=ef f cs ys eQ oM;obtain⟨xs,rfl,aJU,Sj⟩:=asn caps d hΦ;simp only[D.l_list] at he;obtain⟨m,nE,hm,eT,Me,lM⟩:=acV he;have iq0:=afy 8 hq i
 have iq:Inv C (q1.st ids) (O.setR n (.list xs)) V own hv w0 σ0 (λ_=>False) a w:=by
  refine iq0.env (Snap.noOpt _ _) (λt ht=>?_) (λ_ _=>rfl);have af:t<q1.rs.length:=by
   refine abm λhle=>?_;simp only[Snap.st,aH,j7 hle,Option.getD_none,cG,isNone] at ht;cases ht
  simp[Env.setR,bJ _ _ (show t≠n by omega)]
 obtain⟨ρ1,hρ1⟩:∃ρ1,O.setR n (.list xs)=ρ1:=⟨_,rfl⟩
 rw[hρ1] at he iq Me lM;have kq:O.o=ρ1.o:=by rw[<-hρ1];rfl
 rw[kq] at eT;refine wpIn_rangeFunc ?_;intro RE aJk;obtain⟨L,adO⟩:∃L,w.heap.size+1=L:=⟨_,rfl⟩
 obtain⟨rec,jy⟩:∃rec:LoopState->Option Code->Loop,rec=λst pe=>{state:=st,pending:=pe,fn:=RE,tmps:=a.tmps,params:=ps,assign:=ca,body:=cb,defers:=w.heap.size}:=⟨_,rfl⟩
 have i1:=iq.enter (rec .ready none);obtain⟨t,fx0,cx0,aeh,ht0⟩:=iq.frame;have ar0:=σ0.lt _ _ _ _ aeh.F;have Se:=FrOK.enter iq aeh (rec .ready none);have aJS:=iq.below.size;have Cz:Free L (V.mark w.heap.size) own:=by
  refine⟨?_,λo=>?_,?_⟩
  .cases e:own L with
   |none=>rfl
   |some j=>have:=(iq.owns L j e).2.1;omega
  .cases e:V.c L o with
   |none=>exact e
   |some x=>have:=iq.lt e;omega
  .simp only[Im.mark,show L≠w.heap.size by omega,if_false];cases e:V.m L with
   |none=>rfl
   |some x=>have:=iq.ltm e;omega
 have na:V.le (V.mark w.heap.size):=by
  refine⟨λ_ _ _ e=>e,λk x e=>?_⟩;have:k≠w.heap.size:=by have:=iq.ltm e;omega
  simp[Im.mark,this,e]
 have hL1:((w.alloc (.deferred (some []))).alloc (.loop (rec .ready none))).heap[L]?=some (.loop (rec .ready none)):=by
  have:=World.alloc_heap_new (w.alloc (.deferred (some []))) (.loop (rec .ready none));rw[World.size_alloc,adO] at this;exact this
 obtain⟨W1,RV⟩:∃W1,(w.alloc (.deferred (some []))).alloc (.loop (rec .ready none))=W1:=⟨_,rfl⟩
 have aJd:W1.heap.size=w.heap.size+2:=by rw[<-RV];simp
 rw[RV] at i1 Se hL1;have hen:(Instr.enterLoop RE a.tmps ps ca cb none).run C.P w=.ok (L,[{target:=.collected w.heap.size,args:=#[]}]) W1:=by
  rw[<-RV,jy,<-adO];exact run_enterLoop_outer _ _ _ _ _
 obtain⟨σ1,hσ1⟩:∃σ1,V.mark w.heap.size=σ1:=⟨_,rfl⟩
 rw[hσ1] at i1 Se Cz na;obtain⟨aM,RW⟩:∃aM:Act,{a with defers:={target:=.collected w.heap.size,args:=#[]}::a.defers}=aM:=⟨_,rfl⟩
 have FI:aM.tmps=a.tmps:=by rw[<-RW]
 rw[RW] at i1;have iR:=i1.toRnd (t:=t) (X:=λk=>k=L) ht0;obtain⟨σR,hσR⟩:∃σR,σ0.rnd σ1 own W1 t (λk=>k=L)=σR:=⟨_,rfl⟩
 have vY:∀t' f c w',σR.F t' f c w'->(∀k,f k->k<W1.heap.size/\k≠L)/\∀k,c k->f k/\(∀o,σ1.c k o=none)/\σ1.m k=none:=by
  rw[<-hσR];rintro t' f c w' ⟨_,h2,h3,_⟩;exact⟨λk hk=>⟨((h2 k).1 hk).1,((h2 k).1 hk).2.2.2⟩,λk hk=>(h3 k).1 hk⟩
 have hRC:CtxOK C σR:=by rw[<-hσR];exact hC.mono i1.le
 rw[hσR] at iR
 obtain⟨P,hP⟩:∃P:Nat->List D->Snap->LoopState->Option Code->Prop,P=λi vo Sx st pe=>(i<=m/\vo=nE i/\Sx=q1/\st=.ready/\pe=none)\/
  (i=m+1/\m<xs.length/\st=.done/\∃y id O',xs[m]?=some y/\q2.pc.ev Z N (ρ1.put ps.toList (partsOf ps.toList y) lo (nE m))=some (.exit id O')/\vo=lo.map O'.o/\(id,Sx)∈q2.ex/\((id≠cN/\pe=some (.exit id))\/(id=cN/\pe=some .ret))):=⟨_,rfl⟩
 obtain⟨c1,c2⟩:=azk (C:=C) (w:=W1) (L:=L) hfn hgv;refine⟨L,[{target:=.collected w.heap.size,args:=#[]}],W1,_,W1,f,_,W1,hen,c1,λ_ _=>trivial,c2,(λe=>by cases e),?_⟩
 refine ace ((Sj σ1 W1 (.func (.yield L) #[] #[]) vs (RSt C w0 σR ids ρ1 lo aM L W1 σ1 rec xs P) (λk=>k<W1.heap.size) (λk=>(∃j,own k=some j)\/k=L) m i1.ok (hC.mono i1.le) ⟨h1,h2,λj t e=>(aP j t e).mono na⟩ hm
  (λt f c w h=>h.lt) (λt f c w h=>h.sub) (λt f c w w' h hb hs=>h.keep (by omega) (by omega) (λt f c w hF k hk=>((vY t f c w hF).1 k hk).1) hb hs) ?_ ?_ ?_ ?_).mono ?_)
 .refine⟨λk hk=>hk,λk hk=>?_,λk hk=>hk,0,nE 0,q1,.ready,none,σ1,own,hv,by simp,by rw[hP];exact .inl ⟨kf _,rfl,rfl,rfl,rfl⟩,?_,.refl σ1,Cz,hL1,λk j e=>(iR.owns k j e).2.1,λk o x e=>iR.lt e,λk x e=>iR.ltm e,λk=>.rfl⟩
  .rcases hk with⟨j,e⟩|e
   .exact(iR.owns k j e).2.1
   .show k<W1.heap.size;omega
  .rw[eT,Env.put_self];exact iR
 .rintro k o x e (⟨j,hj⟩|rfl)
  .have:=(iR.owns k j hj).2.2.1 o;rw[e] at this;cases this
  .rw[Cz.c] at e;cases e
 .rintro k x e (⟨j,hj⟩|rfl)
  .have:=(iR.owns k j hj).2.2.2;rw[e] at this;cases this
  .rw[Cz.m] at e;cases e
 .intro i fx cx w1 σx args ds' hi dF hF hσx ju jv oz dD cY rd' o a' x' aa ts K Q eG cD adZ hK;have aJp:i<xs.length:=(eO.1 dF).1;obtain⟨i',vo,Sx,st,pe,σa,Ac,hva,e1,e2,iA,Ma,FG,LG,SH,hcA,F8,CF⟩:=hF.ex;have hii:i'=i:=by
   have h9:=congrArg List.length (congrArg D.l e1);simp only[D.l_list,dY] at h9;omega
  subst hii;rw[hP] at e2;rcases e2 with⟨_,rfl,FH,rfl,rfl⟩|⟨e2,_⟩
  case inr=>omega
  rw[FH] at iA;have adP:L<w1.heap.size:=hF.lt L (hF.old L (by omega));have LP:cx L:=(CF L).2 (.inr rfl)
  have asQ:∀k o v,σx.c k o=some v->Ac k=none:=λk o v e=>by
   cases e2:Ac k with
   |none=>rfl
   |some j=>exact absurd ((CF k).2 (.inl ⟨j,e2⟩)) (jv k o v e)
  have Gc:∀k v,σx.m k=some v->Ac k=none:=λk v e=>by
   cases e2:Ac k with
   |none=>rfl
   |some j=>exact absurd ((CF k).2 (.inl ⟨j,e2⟩)) (oz k v e)
  have hτok:σx.noM.ok w1:=⟨hσx.c,λk v e=>hσx.m k v (Im.noM_m e).1,hσx.f⟩
  have iB:=iA.joinIm (τ:=σx.noM) hτok (λk e=>(Im.noM_m e).2 rfl) asQ (λk v e=>Gc k v (Im.noM_m e).1)
   (λk o v e=>(dD k o v e).imp (λe=>Ma.c k o v e) λe=>by omega) (λk v e=>(cY k v (Im.noM_m e).1).imp (λe=>Ma.m k v e) λe=>by omega)
   (λt' f c hf=>⟨λk o v e hc=>by
        obtain⟨g1,g2,g3⟩:=(vY _ _ _ _ hf.F).2 k hc;rcases dD k o v e with e|e
        .rw[g2 o] at e;cases e
        .have:=((vY _ _ _ _ hf.F).1 k g1).1;omega,λk v e hc=>by
        obtain⟨g1,g2,g3⟩:=(vY _ _ _ _ hf.F).2 k hc;rcases cY k v (Im.noM_m e).1 with e|e
        .rw[g3] at e;cases e
        .have:=((vY _ _ _ _ hf.F).1 k g1).1;omega⟩)
  have hFB:Free L (σa.plus σx.noM) Ac:=by
   refine⟨FG.own,λo=>?_,?_⟩
   .cases e:(σa.plus σx.noM).c L o with
    |none=>rfl
    |some v=>
     rcases Im.plus_c e with e|e
     .rw[FG.c] at e;cases e
     .exact absurd LP (jv L o v e)
   .cases e:(σa.plus σx.noM).m L with
    |none=>rfl
    |some v=>
     rcases Im.plus_m e with e|e
     .rw[FG.m] at e;cases e
     .exact absurd LP (oz L v (Im.noM_m e).1)
  have wv:ps.toList.length=ys.length:=by rw[AP];exact hl.symm
  have arn:qw C (σa.plus σx.noM) ys args ds':=⟨ju.1,ju.2.1,λj t e=>((ju.2.2 j t e).noM).mono (Im.plus_le2 iA.ok hτok)⟩
  have iC:=iB.startR (O':=ρ1) wv bp (λp hp=>by
   have:=cM.1 af p hp;rw[FI,hn];simpa [qF] using this) arn rfl
  have SY:∃xi,q2.pc.ev Z N (ρ1.put ps.toList (partsOf ps.toList (.tup ds')) lo (nE i'))=some xi/\((i'<m/\∃O',xi=.next O'/\lo.map O'.o=nE (i'+1))\/(i'=m/\m<xs.length/\∃id O',xi=.exit id O')):=by
   by_cases tc:i'<m
   .obtain⟨y,O',g1,g2,g3⟩:=Me i' tc;rw[dF] at g1;cases g1;exact⟨_,g2,.inl ⟨tc,O',rfl,g3⟩⟩
   .obtain rfl:i'=m:=by omega
    rcases lM with⟨g1,_⟩|⟨g1,y,id,O',g2,g3,_⟩
    .omega
    .rw[dF] at g2;cases g2;exact⟨_,g3,.inr ⟨rfl,g1,id,O',rfl⟩⟩
  obtain⟨xi,uV,Tx⟩:=SY;have ab:q2.pc=.seq ra.pc rb.pc:=by rw[<-ie];rfl
  rw[ab] at uV;have aJ:(ny ps.toList args aM.tmps).size=n:=by rw[aka,FI,hn]
  refine⟨λ_ _=>trivial,?_⟩;rw[Oper.semAt_eq _ _ _ (λc e=>by rw[eG] at e;cases e)];have aro:aa.size=ps.size:=by
   have:=ju.1;rw[<-adZ,dX,AP] at this;omega
  have aq:=aEt (C:=C) eG cD LG (by rw[jy];exact aro);have atc:(rec .ready none).fn=RE/\(rec .ready none).tmps=a.tmps/\(rec .ready none).params=ps/\(rec .ready none).assign=ca/\(rec .ready none).body=cb:=by rw[jy];exact⟨rfl,rfl,rfl,rfl,rfl⟩
  obtain⟨r1,r2,r3,r4,r5⟩:=atc;rw[r1,r2,r3,r4,r5] at aq
  have Gu:(ps.zip (aa.map a'.eval)).foldl (λtmps (t,v)=>tmps.setIfInBounds t v) a.tmps=ny ps.toList args aM.tmps:=by
   rw[FI,<-adZ,<-AR];exact aAu ps (aa.map a'.eval) a.tmps
  rw[Gu] at aq;rw[aq];refine⟨(λe=>by cases e),?_⟩;refine roundIn_of_wpIn (F:=FR rd') trivial ?_;show ca.wpIn (FR (some L)) 0 C.P _ _ _;cases nk:ra.pc.ev Z N (ρ1.put ps.toList (partsOf ps.toList (.tup ds')) lo (nE i')) with
  |none=>simp only[PC.ev,nk] at uV;cases uV
  |some xa=>
  refine wpIn_mono (aj4 bx S8 mj hRC iC (wr:=λt=>t∈cA ca) (λ_ h=>h) aJ nk L) λe2 a1 w1' atm=>?_;obtain⟨ρ2,S2,σ2,jC,iL,iD,lN,iK,kR⟩:=atm;cases e2 with
  |normal=>
   obtain⟨rfl,vZ⟩:=kR;rw[hao] at vZ;cases vZ;simp only[PC.ev,nk] at uV;have hL2:w1'.heap[L]?=some (.loop (rec .ready none)):=(lN.same L adP hFB.own).trans LG;have RR:=hFB.seg adP lN;have RS:L<w1'.heap.size:=(eA.1 hL2).1;have LF:w0.heap.size<=L:=by omega
   refine⟨_,run_beginRound hL2 (by rw[jy]),?_⟩;have iE:=iD.putL LF RR (λt' f c hf FW=>((vY _ _ _ _ hf.F).1 L FW).2 rfl) (.loop {rec .ready none with state:=.busy});have hL3:(w1'.putObj L (.loop {rec .ready none with state:=.busy})).heap[L]?=some (.loop {rec .ready none with state:=.busy}):=World.putObj_heap_same RS;show cb.wpIn (FR (some L)) 0 C.P _ _ _;refine wpIn_mono (aj4 dw hrb mj hRC iE (wr:=λt=>t∈cA cb) (λ_ h=>h) (iK.size.trans aJ) uV L) λe3 a3 w3 atn=>?_;obtain⟨ρ3,S3,σ3,Ab,Gx,iF,Mo,atk,pU⟩:=atn;have hL4:w3.heap[L]?=some (.loop {rec .ready none with state:=.busy}):=(Mo.same L (by simpa using RS) RR.own).trans hL3;have hF3:=RR.seg (by simpa using RS) Mo;have aq5:L<w3.heap.size:=(eA.1 hL4).1;obtain⟨mk,wq⟩:∃mk,Nat.lor (zP (ps.toList++cA ca++cA cb)) (Nat.lor ra.mr rb.mr)=mk:=⟨_,rfl⟩
   have asH:∀t,aU mk t=false->t∉ps.toList/\t∉cA ca/\t∉cA cb/\aU ra.mr t=false/\aU rb.mr t=false:=by
        intro t ht;rw[<-wq,gU,gU,aaY,aaY] at ht;obtain⟨t1,t2,t3⟩:=ht;have:t∉ps.toList++cA ca++cA cb:=λhm=>by rw[ab4 hm] at t1;cases t1
        simp only[dZ,not_or] at this;exact⟨this.1.1,this.1.2,this.2,t2,t3⟩
   have Tb:∀t,aU mk t=false->aM.tmps.getD t undef=a3.tmps.getD t undef/\(ρ1.put [] [] lo (lo.map ρ3.o)).r t=ρ3.r t:=by
        intro t ht;obtain⟨t1,t2,t3,t4,t5⟩:=asH t ht;refine⟨?_,?_⟩
        .rw[atk.get t t3,iK.get t t2];exact(ON _ _ _ _ t1).symm
        .have R1:∀O',xi=.next O'\/(∃id,xi=.exit id O')->O'.r t=ρ2.r t:=λO' h=>by
          have y9:xi.env?=some O':=by rcases h with h|⟨id,h⟩<;>rw[h]<;>rfl
          exact(PC.ev_but rb.pc _ _ O' uV y9).r t λhm=>by rw[hmb.1 t hm] at t5;cases t5
         have dA:ρ2.r t=putL ρ1.r ps.toList (partsOf ps.toList (.tup ds')) t:=(PC.ev_but ra.pc _ _ ρ2 nk rfl).r t λhm=>by rw[hma.1 t hm] at t4;cases t4
         rw[Dt _ _ _ _ t1] at dA;show ρ1.r t=ρ3.r t;rw[R1 ρ3 (by
          cases e3 with
          |normal=>exact .inl pU.1
          |exit id=>exact .inr ⟨id,pU.1⟩
          |ret=>exact .inr ⟨_,pU.1⟩
          |_=>exact pU.elim),dA]
   have F9:q2.mo=j1 ra.mo rb.mo:=by rw[<-ie];rfl
   have SK:∀j,j∉q2.mo->ρ3.o j=ρ1.o j:=by
        intro j hj;rw[F9,rF,not_or] at hj;have y9:xi.env?=some ρ3:=by
         cases e3 with
         |normal=>rw[pU.1];rfl
         |exit id=>rw[pU.1];rfl
         |ret=>rw[pU.1];rfl
         |_=>exact pU.elim
        rw[(PC.ev_but rb.pc _ _ ρ3 uV y9).o j λhm=>hj.2 (hmb.2 j hm),(PC.ev_but ra.pc _ _ ρ2 nk rfl).o j λhm=>hj.1 (hma.2 j hm)]
        exact Dt _ _ _ _ λhm=>by
         rw[<-pQ] at hm;have:=(dK.1 hm).1;rw[F9,rF] at this;exact this.elim hj.1 hj.2
   have SJ:∀(S:Snap),S∈(q1::q2.ex.map (·.2))->∀j,pZ ((S.st ids).o j)=false->(ρ1.put [] [] lo (lo.map ρ3.o)).o j=ρ3.o j:=by
        intro S hS j hj;show putL ρ1.o lo (lo.map ρ3.o) j=ρ3.o j;rw[vf];split
        .rfl
        .rename_i ia;refine(SK j λwg=>ia ?_).symm;rw[<-pQ];exact dK.2 ⟨wg,xR.2 ⟨S,hS,by simpa [Snap.st] using hj⟩⟩
   have fin:∀(jump:Option Code) (Sx:Snap),Inv C (Sx.st ids) (ρ1.put [] [] lo (lo.map ρ3.o)) σ3 Ab Gx w0 σR (λ_=>False) aM w3->P (i'+1) (lo.map ρ3.o) Sx (if jump.isNone then .ready else .done) jump->jump.isNone=decide (i'<m)->
        ∃v w',(Instr.endRound L jump).run C.P w3=.ok v w'/\K (a'.put o.dst v) w':=by
        intro jump Sx iG hPn wg;refine⟨_,_,run_endRound jump hL4,?_⟩;have atb:({{rec .ready none with state:=.busy} with state:=if jump.isNone then .ready else .done,pending:=jump}:Loop)=rec (if jump.isNone then .ready else .done) jump:=by rw[jy]
        rw[atb];have aP:=lN.round (L:=L) (o':=.loop (rec (if jump.isNone then .ready else .done) jump)) Mo;have iH:=iG.putL LF hF3 (λt' f c hf FW=>((vY _ _ _ _ hf.F).1 L FW).2 rfl) (.loop (rec (if jump.isNone then .ready else .done) jump));obtain⟨w4,Tu⟩:∃w4,w3.putObj L (.loop (rec (if jump.isNone then .ready else .done) jump))=w4:=⟨_,rfl⟩
        have hL5:w4.heap[L]?=some (.loop (rec (if jump.isNone then .ready else .done) jump)):=by rw[<-Tu];exact World.putObj_heap_same aq5
        have aJX:w4.heap.size=w3.heap.size:=by rw[<-Tu];simp
        rw[Tu] at aP iH ⊢;have aJc:W1.heap.size<=w1.heap.size:=by
         have:=hF.lt (W1.heap.size-1) (hF.old _ (by omega));omega
        have aJT:=aP.below.size
        refine hK _ _ ⟨by rw[wg],aP.below,λk hk hc=>aP.same k hk (by
         cases e:Ac k with
         |none=>rfl
         |some j=>exact absurd ((CF k).2 (.inl ⟨j,e⟩)) hc) (λe=>hc (by rw[e];exact LP)),(λk=>k<w4.heap.size/\(k<W1.heap.size\/(∃j,Ab k=some j)\/(∃o x,σ3.c k o=some x)\/∃x,σ3.m k=some x)),(λk=>(∃j,Ab k=some j)\/k=L),?_,?_,?_⟩
        .refine⟨λk hk=>hk.1,λk hk=>?_,λk hk=>⟨by omega,.inl hk⟩,i'+1,lo.map ρ3.o,Sx,_,jump,σ3,Ab,Gx,rfl,hPn,iH,Ma.trans ((Im.plus_le1 _ _).trans aP.le),hF3,hL5,λk j e=>⟨(iH.owns k j e).2.1,.inr (.inl ⟨j,e⟩)⟩,λk o x e=>⟨iH.lt e,.inr (.inr (.inl ⟨o,x,e⟩))⟩,λk x e=>⟨iH.ltm e,.inr (.inr (.inr ⟨x,e⟩))⟩,λk=>.rfl⟩;rcases hk with⟨j,e⟩|e
         .exact⟨(iH.owns k j e).2.1,.inr (.inl ⟨j,e⟩)⟩
         .exact⟨by omega,.inl (by omega)⟩
        .rintro k ⟨_,hk⟩ bD
         have F1:((∃o x,σ3.c k o=some x)\/∃x,σ3.m k=some x)->fx k\/(∃o x,σx.c k o=some x)\/(∃x,σx.m k=some x/\x≠cw):=λh=>by
          rcases aP.imm k h with⟨o,x,e⟩|⟨x,e⟩|⟨j,e⟩|e
          .rcases Im.plus_c e with e|e
           .exact .inl (hcA k o x e)
           .exact .inr (.inl ⟨o,x,e⟩)
          .rcases Im.plus_m e with e|e
           .exact .inl (F8 k x e)
           .exact .inr (.inr ⟨x,(Im.noM_m e).1,(Im.noM_m e).2⟩)
          .exact .inl (SH k j e)
          .omega
         rcases hk with hk|⟨j,e⟩|e|e
         .exact .inl (hF.old k hk)
         .rcases aP.ow k j e with⟨j',e⟩|e
          .exact .inl (SH k j' e)
          .omega
         .exact F1 (.inl e)
         .exact F1 (.inr e)
        .rintro k (⟨j,e⟩|e) bD
         .rcases aP.ow k j e with⟨j',e⟩|e
          .exact(CF k).2 (.inl ⟨j',e⟩)
          .omega
         .rw[e];exact LP
   have pO:lq σ3 w0.heap.size aM.defers:=iA.defers.mono ((Im.plus_le1 _ _).trans (lN.le.trans Mo.le));have S4:q2.out=rb.out.map (Snap.mask mk)/\q2.ex=rb.ex.map (λx=>(x.1,x.2.mask mk)):=by rw[<-ie,<-wq];exact⟨rfl,rfl⟩
   cases e3 with
   |normal=>
    obtain⟨e4,e5⟩:=pU;have hT:q2.out=some (S3.mask mk):=by rw[S4.1,e5];rfl
    have aei:=CI _ hT
    have iG:Inv C (q1.st ids) ρ3 σ3 Ab Gx w0 σR (λ_=>False) a3 w3:=by
        have:=Snap.meet_ok2 (x:=q1) (iF.maskR mk)
        rwa [aei] at this
    have iH:=iG.restore (O':=ρ1.put [] [] lo (lo.map ρ3.o)) (a':=aM) (Snap.noOpt _ _) pO (λt ht=>Tb t (by
        cases e:aU mk t with
        |false=>rfl
        |true=>
         have h9:=axk (x:=q1) (S:=S3) (ids:=ids) e;rw[aei] at h9;rw[h9] at ht;cases ht)) (λj hj=>SJ q1 (fQ ..) j hj)
    rcases Tx with⟨tc,O',e6,e7⟩|⟨_,_,id,O',e6⟩
    .rw[e4] at e6;cases e6;exact fin none q1 iH (by rw[hP];exact .inl ⟨by omega,e7,rfl,rfl,rfl⟩) (by simp[tc])
    .rw[e4] at e6;cases e6
   |exit id=>
    obtain⟨e4,e5,e6⟩:=pU;have cV:(id,S3.mask mk)∈q2.ex:=by rw[S4.2];exact cd.2 ⟨_,e6,rfl⟩
    have iH:=(iF.maskR mk).restore (O':=ρ1.put [] [] lo (lo.map ρ3.o)) (a':=aM) (Snap.noOpt _ _) pO (λt ht=>Tb t (by
        cases e:aU mk t with
        |false=>rfl
        |true=>rw[GX,if_pos e] at ht;cases ht)) (λj hj=>SJ (S3.mask mk) (fy _ (cd.2 ⟨_,cV,rfl⟩)) j hj)
    rcases Tx with⟨tc,O',e7,_⟩|⟨tc,uR,bO,O',e7⟩
    .rw[e4] at e7;cases e7
    .subst tc;refine fin (some (.exit id)) (S3.mask mk) iH ?_ (by simp);rw[hP];refine .inr ⟨rfl,uR,rfl,_,id,ρ3,dF,?_,rfl,cV,.inl ⟨e5,rfl⟩⟩;rw[ab];simp only[PC.ev,nk];rw[uV,e4]
   |ret=>
    obtain⟨e4,e6⟩:=pU;have cV:(cN,S3.mask mk)∈q2.ex:=by rw[S4.2];exact cd.2 ⟨_,e6,rfl⟩
    have iH:=(iF.maskR mk).restore (O':=ρ1.put [] [] lo (lo.map ρ3.o)) (a':=aM) (Snap.noOpt _ _) pO (λt ht=>Tb t (by
        cases e:aU mk t with
        |false=>rfl
        |true=>rw[GX,if_pos e] at ht;cases ht)) (λj hj=>SJ (S3.mask mk) (fy _ (cd.2 ⟨_,cV,rfl⟩)) j hj)
    rcases Tx with⟨tc,O',e7,_⟩|⟨tc,uR,bO,O',e7⟩
    .rw[e4] at e7;cases e7
    .subst tc;refine fin (some .ret) (S3.mask mk) iH ?_ (by simp);rw[hP];refine .inr ⟨rfl,uR,rfl,_,cN,ρ3,dF,?_,rfl,cV,.inr ⟨rfl,rfl⟩⟩;rw[ab];simp only[PC.ev,nk];rw[uV,e4]
   |_=>exact pU.elim
  |exit id=>obtain⟨_,_,e6⟩:=kR;rw[hax] at e6;cases e6
  |ret=>obtain⟨_,e6⟩:=kR;rw[hax] at e6;cases e6
  |_=>exact kR.elim
 .rintro e' w' ⟨⟨v,rfl⟩,fx,cx,hF⟩;rw[show({tmps:=a.tmps,defers:=[{target:=Target.collected w.heap.size,args:=#[]}]++a.defers}:Act)=aM from RW];obtain⟨i',vo,Sx,st,pe,σa,Ac,hva,e1,e2,iA,Ma,FG,LG,SH,hcA,F8,CF⟩:=hF.ex;have h9:=congrArg List.length (congrArg D.l e1);simp only[D.l_list,dY] at h9;have cX:(rec st pe).state≠.busy:=by
   rw[hP] at e2;rw[jy];rcases e2 with⟨_,_,_,e3,_⟩|⟨_,_,e3,_⟩<;>(rw[e3];intro e;cases e)
  have oH:(rec st pe).pending=pe:=by rw[jy]
  have Sc:(Instr.endLoop L).run C.P w'=.ok pe (w'.putObj L (.loop {rec st pe with state:=.exhausted})):=(run_endLoop (P:=C.P) LG cX).trans (congrArg (λz=>Result.ok z _) oH);have iF:=iA.putL (by omega:w0.heap.size<=L) FG (λt' f c hf FW=>((vY _ _ _ _ hf.F).1 L FW).2 rfl) (.loop {rec st pe with state:=.exhausted});rw[<-hσR] at iF;have iG:=i1.ofRnd Se (λk hk e=>by have:=ar0 k hk;omega) iF;have kT:SameBut wr a aM:=⟨by rw[FI],λt _=>by rw[FI]⟩
  refine⟨pe,_,Sc,?_⟩;rw[hP] at e2;rcases e2 with⟨e3,rfl,FH,_,rfl⟩|⟨rfl,uR,_,y,id,O',g1,g2,rfl,g4,g5⟩
  .rcases lM with⟨g1,g2⟩|⟨g1,_⟩
   .obtain rfl:i'=m:=by omega
    rw[FH] at iG;exact⟨_,q1,g2,rfl,kT,_,_,_,iG⟩
   .omega
  .rcases lM with⟨g6,_⟩|⟨_,y',bO,O'',k1,k2,k3⟩
   .omega
   .rw[g1] at k1;cases k1;rw[g2] at k2;cases k2;rcases k3 with⟨k3,k4⟩|⟨k3,pe',k4,k5⟩
    .rcases g5 with⟨_,rfl⟩|⟨g5,_⟩
     .exact wpIn_exit ⟨_,Sx,k4,k3,dK.2 ⟨g4,by simp[fS k3]⟩,kT,_,_,_,iG⟩
     .exact absurd g5 k3
    .rcases g5 with⟨g5,_⟩|⟨_,rfl⟩
     .exact absurd k3 g5
     .subst k3;rw[<-wy,az] at k4;obtain⟨M,hM,Ta⟩:=k4;obtain⟨M',hM',uO⟩:=Uq (⟨_,_,_,iG⟩:Good C w0 σ0 (Sx.st ids) _ (λ_=>False) aM _) q2.ex none g4;rw[hM] at hM';cases hM';obtain⟨σm,aKP,hvm,im⟩:=uO;exact wpIn_ret ⟨_,k5,Inv.retD hC (λ_=>rfl) km Ta _ im rfl,kT⟩
def age {arr:Array MapEntry}{clock:Nat}(hb:nG arr clock){idx:List Nat}(hi:∀i,i∈idx->i<arr.size){i:Nat}{e:MapEntry}(he:arr[i]?=some e):(gL arr idx).contains e.born=true↔i∈idx:=by
 simp only[gL,List.contains_toArray,List.contains_iff_mem,cd];constructor
 .rintro⟨j,hj,h⟩;have af:=hi j hj;rw[jF af] at h;simp only at h;have:=hb.2 j i arr[j] e (jF af) he h;rw[<-this];exact hj
 .intro h;exact⟨i,h,by rw[he]⟩
def aAo (arr:Array MapEntry)(idx:List Nat){i:Nat}{e:MapEntry}(he:arr[i]?=some e):(gL arr idx).push e.born=gL arr (idx++[i]):=by
 simp[gL,he]
def axq {P:Program}{w:World}{k m:Nat}{arr:Array MapEntry}{clock:Nat}{idx:List Nat}(hk:w.heap[k]?=some (.mapIter (some m) clock (gL arr idx) clock))(hm:w.heap[m]?=some (.map arr clock))(hb:nG arr clock)(hi:∀i,i∈idx->i<arr.size)(T:TypeId):
 ∃w1:World,(w1=w\/w1=w.drew)/\(((∀i,i<arr.size->i∈idx)/\(Instr.next (.pointer (some ⟨k,0,none⟩)) false T).run P w=.ok (.tuple #[.bool false]) w1)\/
  ∃i e,arr[i]?=some e/\i∉idx/\(Instr.next (.pointer (some ⟨k,0,none⟩)) false T).run P w=.ok (.tuple #[.bool true,e.key,e.val]) {w1 with heap:=w1.heap.setIfInBounds k (.mapIter (some m) clock (gL arr (idx++[i])) clock)}):=by
 have cV:∀{e:MapEntry},e∈arr->∃i:Nat,arr[i]?=some e:=λhe=>by
  obtain⟨i,hi,rfl⟩:=Array.mem_iff_getElem.1 he;exact⟨i,jF hi⟩
 have hold:∀(l:Array MapEntry),(∀e,e∈l->e.born<clock)->l.filter (λx=>decide (x.born<clock))=l:=λl h=>by
  rw[Array.filter_eq_self];intro e he;simpa using h e he
 have mh:∀(l:Array MapEntry),(∀e,e∈l->e.born<clock)->l.filter (λx=>decide (x.born>=clock))=#[]:=λl h=>by
  rw[Array.filter_eq_empty_iff];intro e he;have:=h e he;simp;omega
 have R3:∀e,e∈arr->e.born<clock:=λe he=>by obtain⟨i,hi⟩:=cV he;exact hb.1 i e hi
 have oy:(!(gL arr idx).isEmpty&& !arr.isEmpty&&arr.all (λx=>decide (x.born>=clock)))=false:=by
  cases ha:arr.isEmpty
  .have ay:arr.size≠0:=by simpa using ha
   have:arr.all (λx=>decide (x.born>=clock))=false:=by
        rw[aaX];intro h;rw[Array.all_eq_true] at h;have h0:=h 0 (by omega);have h1:=R3 arr[0] (aaU _);simp at h0;omega
   rw[this,AS]
  .simp
 let left:=arr.filter λe=> !(gL arr idx).contains e.born
 have hl:∀e,e∈left->e.born<clock:=λe he=>R3 e (aaV.1 he).1;by_cases hz:left.size=0
 .refine⟨w,.inl rfl,.inl ⟨λi af=>?_,?_⟩⟩
  .by_cases cg:i∈idx
   .exact cg
   .exfalso;have Mb:arr[i]∈left:=aaV.2 ⟨aaU _,by
     have:=age hb hi (jF af);cases hc:(gL arr idx).contains arr[i].born with
     |false=>rfl
     |true=>exact absurd (this.1 hc) cg⟩
    have:left=#[]:=Pp hz;rw[this] at Mb;simp at Mb
  .have he:left=#[]:=Pp hz;have oA:arr.filter (λe=> !(gL arr idx).contains e.born)=#[]:=he;simp only[Instr.next,getObj,Sem.run_bind,Sem.run,hk,hm,Result.andThen_ok,oy,oA];simp[Question.forced,Sem.run]
 .have uN:left.filter (λx=>decide (x.born<clock))=left:=hold left hl;have FU:left.filter (λx=>decide (x.born>=clock))=#[]:=mh left hl;have hem:left.isEmpty=false:=by simpa using hz
  have key:∀c,c<left.size->∃i e,arr[i]?=some e/\i∉idx/\left[c]?=some e:=λc hc=>by
   have Mb:left[c]∈left:=aaU _;obtain⟨h1,h2⟩:=aaV.1 Mb;obtain⟨i,dB⟩:=cV h1;refine⟨i,left[c],dB,λcg=>?_,jF hc⟩;rw[(age hb hi dB).2 cg] at h2;cases h2
  obtain⟨w1,c,jh,hc,kN⟩:∃w1 c,(w1=w\/w1=w.drew)/\c<left.size/\(choose (.mapNext left.size)).run P w=.ok c w1:=by
   by_cases h1:left.size<=1
   .exact⟨w,0,.inl rfl,by omega,by simp[Question.forced,h1]⟩
   .exact⟨w.drew,_,.inr rfl,qG _ (by omega),by simp[Question.forced,h1,Question.cut];rfl⟩
  obtain⟨i,e,h1,h2,h3⟩:=key c hc;refine⟨w1,jh,.inr ⟨i,e,h1,h2,?_⟩⟩;have zg:arr.filter (λe=> !(gL arr idx).contains e.born)=left:=rfl;have kO:(getObj k).run P w=.ok (.mapIter (some m) clock (gL arr idx) clock) w:=by simp[getObj,Sem.run,hk]
  have jw:(getObj m).run P w=.ok (.map arr clock) w:=by simp[getObj,Sem.run,hm]
  have bD:w1.heap[k]?=some (.mapIter (some m) clock (gL arr idx) clock):=by rcases jh with rfl|rfl<;>exact hk
  have hg3:(setObj k (.mapIter (some m) clock ((gL arr idx).push e.born) clock)).run P w1=.ok () {w1 with heap:=w1.heap.setIfInBounds k (.mapIter (some m) clock ((gL arr idx).push e.born) clock)}:=by simp[setObj,Sem.run,bD]
  have arv:((if false=true then #[none] else #[])++Array.map some (left++#[]):Array (Option MapEntry))=left.map some:=by simp
  have jv:(left.map some)[c]?=some (some e):=by simp[h3]
  have ael:∀(EY:Array (Option MapEntry)) (cc:Nat),(choose (.mapNext EY.size)).run P w=.ok cc w1->EY[cc]?=some (some e)->(do
        match EY[<-choose (.mapNext EY.size)]? with
        |some (some e)=>
         setObj k (.mapIter (some m) clock ((gL arr idx).push e.born) clock)
         pure (.tuple #[.bool true,e.key,e.val])
        |some none=>(pure (.tuple #[.bool false]):Sem Value)
        |none=>stuck "Next: no such candidate" :Sem Value).run P w=.ok (.tuple #[.bool true,e.key,e.val]) {w1 with heap:=w1.heap.setIfInBounds k (.mapIter (some m) clock ((gL arr idx).push e.born) clock)}:=by
   intro EY cc h4 h5;rw[Sem.run_bind,h4];simp only[Result.andThen_ok,h5];rw[Sem.run_bind,hg3];rfl
  rw[aAo arr idx h1] at ael hg3;have:=ael (left.map some) c (by rw[Array.size_map];exact kN) jv;simp only[Instr.next];rw[Sem.run_bind,kO];simp only[Result.andThen_ok];rw[Sem.run_bind,jw];simp only[Result.andThen_ok,oy,zg,uN,FU,hem];rw[arv,if_neg (by decide)];exact this
def aoY {P:Program}{w:World}{k m:Nat}{arr:Array MapEntry}{clock:Nat}{idx:List Nat}{i:Nat}{e:MapEntry}(hk:w.heap[k]?=some (.mapIter (some m) clock (gL arr (idx++[i])) clock))(hm:w.heap[m]?=some (.map arr clock))(hb:nG arr clock)(he:arr[i]?=some e):
 (Instr.entry (.pointer (some ⟨k,0,none⟩))).run P w=.ok (.tuple #[e.key,e.val]) w:=by
 have arq:(gL arr (idx++[i])).back?=some e.born:=by simp[gL,he]
 have FZ:arr.find? (λx=>x.born==e.born)=some e:=by
  have af:i<arr.size:=(eA.1 he).1;have hei:arr[i]=e:=(eA.1 he).2;rw[Array.find?_eq_some_iff_getElem];refine⟨by simp,i,af,hei,λj hj=>?_⟩;have ia:j<arr.size:=by omega
  cases hc:(arr[j].born==e.born) with
  |false=>rfl
  |true=>
   have:=hb.2 j i arr[j] e (jF ia) he (by simpa using hc);omega
 simp[Instr.entry,getObj,Sem.run_bind,Sem.run,hk,hm,arq,FZ]
def axd {x y z:Code}{k:Nat}{p:MP}(h:Da x y k z=some p):∃i1 i2 o1 o2 o3 l,x=.region i1 p.ops1 false/\y=.cond (.tmp p.mo) .skip (.exit p.out)/\z=.region i2 p.ops2 false/\p.next=k/\p.ops1.toList=[o1,o2]/\p.ops2.toList=o3::l/\
 o1.dst=some p.nx/\o1.guard=none/\o1.op=.next (.tmp p.it) false/\o2.dst=some p.mo/\o2.guard=none/\o2.op=.extract (.tmp p.nx) 0/\o3.dst=some p.pr/\o3.guard=none/\o3.op=.entry (.tmp p.it)/\lW p.pr l []=some p.aa/\
 p.it≠p.nx/\p.it≠p.mo/\p.it≠p.pr/\p.nx≠p.mo/\p.out≠cN/\k≠cN:=by
 unfold Da at h;split at h
 case h_2=>cases h
 rename_i i1 ops1 mo out i2 ops2;split at h
 case h_2=>cases h
 rename_i o1 o2 o3 l e1 e2;split at h
 case h_2=>cases h
 rename_i nx it mo' nx' pr it' d1 g1 q1 d2 g2 q2 d3 g3 q3;rw[qz] at h;split at h
 case isFalse=>cases h
 rename_i hc;simp only[aB] at h;obtain⟨aa,h4,rfl⟩:=h;simp only[au,l6] at hc;obtain⟨⟨⟨⟨⟨⟨⟨⟨c1,c2⟩,c3⟩,c4⟩,c5⟩,c6⟩,c7⟩,c8⟩,c9⟩:=hc;have ne:∀{a b:Nat},Nat.beq a b=false->a≠b:=λh e=>by subst e;simp at h
 obtain rfl:=aD c1;obtain rfl:=aD c2;obtain rfl:=aD c3;exact⟨i1,i2,o1,o2,o3,l,rfl,rfl,rfl,rfl,e1,e2,d1,g1,q1,d2,g2,q2,d3,g3,q3,h4,ne c4,ne c5,ne c6,ne c7,ne c8,ne c9⟩
def Nq {pr:Nat}:∀(l:List Oper) {acc aa:List (Nat×Nat)},lW pr l acc=some aa->∀x,x∈acc->x∈aa
 |[],acc,aa,h,x,hx=>by simp only[lW,bj] at h;subst h;exact hx
 |o::l,acc,aa,h,x,hx=>by
  simp only[lW] at h;split at h
  case h_2=>cases h
  rw[qz] at h;split at h
  .cases h
  split at h
  .rw[qz] at h;split at h
   .exact Nq l h x (jr _ hx)
   .cases h
  .simp only[az] at h;obtain⟨i,_,h⟩:=h;exact Nq l h x (jr _ hx)
  .simp only[az] at h;obtain⟨i,_,h⟩:=h;exact Nq l h x (jr _ hx)
  .cases h
def GS:∀{l:List (Nat×Nat)} {t i:Nat},wT l t=some i->(t,i)∈l
 |x::l,t,i,h=>by
  simp only[wT] at h;cases hb:Nat.beq x.1 t<;>simp only[hb,zyy,zyx] at h
  .exact fy _ (GS h)
  .cases h;have:=aD hb;subst this;exact fQ ..
def af5:∀{l:List (Nat×Nat)} {t:Nat},(wT l t).isSome=false->∀x,x∈l->x.1≠t
 |y::l,t,h,x,hx=>by
  simp only[wT] at h;cases hb:Nat.beq y.1 t<;>simp only[hb,zyy,zyx] at h
  .rcases cv.1 hx with e|hx
   .subst e;intro e;subst e;simp at hb
   .exact af5 h x hx
  .cases h
def VJ {pr:Nat}:∀(l:List Oper) {acc aa:List (Nat×Nat)},lW pr l acc=some aa->(∀x,x∈acc->x.2<=1)->∀x,x∈aa->x∈acc\/(x.2<=1/\∃o,o∈l/\o.dst=some x.1)
 |[],acc,aa,h,_,x,hx=>by simp only[lW,bj] at h;subst h;exact .inl hx
 |o::l,acc,aa,h,ha,x,hx=>by
  simp only[lW] at h;split at h
  case h_2=>cases h
  rename_i d hd oC;rw[qz] at h;split at h
  .cases h
  have go:∀(pt:Nat),pt<=1->lW pr l (acc++[(d,pt)])=some aa->x∈acc\/(x.2<=1/\∃o',o'∈o::l/\o'.dst=some x.1):=by
   intro pt wx hp
   rcases VJ l hp (λy hy=>by
        rcases dZ.1 hy with h|h
        .exact ha y h
        .simp at h;subst h;exact wx) x hx with h|⟨h1,o',h2,h3⟩
   .rcases dZ.1 h with h|h
    .exact .inl h
    .simp at h;subst h;exact .inr ⟨wx,o,fQ ..,hd⟩
   .exact .inr ⟨h1,o',fy _ h2,h3⟩
  split at h
  .rw[qz] at h;split at h
   case isFalse=>cases h
   rename_i jv;simp only[au] at jv;exact go _ (lx jv.2) h
  .simp only[az] at h;obtain⟨i,hi,h⟩:=h;exact go i (ha _ (GS hi)) h
  .simp only[az] at h;obtain⟨i,hi,h⟩:=h;exact go i (ha _ (GS hi)) h
  .cases h
def Dk {P:Program}{ops:Array Oper}{i:Nat}{rest:List Nat}{o:Oper}{rd:Option Nat}{a:Act}{w w':World}{Q:Exit->Act->World->Prop}{v:Value}(ho:ops[i]?=some o)(hg:o.guard=none)(bp:tF o.op=true)(hx:(execOp a.eval o).run P w=.ok (.value v) w')
 (k:wpOpsIn (FR rd) 0 P ops Q rest (a.put o.dst v) w'):wpOpsIn (FR rd) 0 P ops Q (i::rest) a w:=by
 simp only[wpOpsIn,ho];rw[if_pos (by simp[Region.wanted,hg])];exact aiv bp (by unfold Oper.wp;rw[hx];exact k)
def aAg {ops:Array Oper}{o:Oper}(ho:o∈ops.toList)(a:Act)(v:Value):SameBut (Ci ops) a (a.put o.dst v):=by
 have:=SameBut.put a o.dst v a.defers;exact this.mono λt e=>⟨o,ho,e⟩
def Du {a:Act}{d:Nat}{v:Value}(h:d<a.tmps.size):(a.put (some d) v).tmps.getD d undef=v:=by rw[IU];simp[h]
def Nz {a:Act}{d t:Nat}{v:Value}(h:t≠d):(a.put (some d) v).tmps.getD t undef=a.tmps.getD t undef:=by rw[IU];simp[h]
def put_defers (a:Act)(d:Option Nat)(v:Value):(a.put d v).defers=a.defers:=by cases d<;>rfl
def G8 (kv vv:Value)(i:Nat):Value:=if i=0 then kv else vv
def aiF {P:Program}{ops:Array Oper}{rd:Option Nat}{Q:Exit->Act->World->Prop}{pr:Nat}{kv vv:Value}{w:World}:∀(l:List Oper) (acc aa:List (Nat×Nat)) (i:Nat) (a:Act),lW pr l acc=some aa->ops.toList.drop i=l->(∀x,x∈aa->x.1<a.tmps.size)->a.tmps.getD pr undef=.tuple #[kv,vv]->
 (∀x,x∈acc->a.tmps.getD x.1 undef=G8 kv vv x.2)->(∀a',SameBut (Ci ops) a a'->a'.defers=a.defers->(∀x,x∈aa->a'.tmps.getD x.1 undef=G8 kv vv x.2)->Q .normal a' w)->wpOpsIn (FR rd) 0 P ops Q (List.range' i (ops.size-i)) a w
 |[],acc,aa,i,a,h,hl,af,rv,FJ,hQ=>by
  simp only[lW,bj] at h;subst h;have:ops.size-i=0:=by
    have:=aa6.1 hl;simp at this;omega
  rw[this];exact hQ a (.refl _ _) rfl FJ
 |o::l,acc,aa,i,a,h,hl,af,rv,FJ,hQ=>by
  have hi:i<ops.toList.length:=by
   refine abm λhle=>?_;rw[aa6.2 hle] at hl;cases hl
  rw[ala hi] at hl;have ho:ops[i]?=some o:=by
   have:ops.toList[i]=o:=by injection hl
   rw[<-this];simp at hi ⊢
  have wj:ops.toList.drop (i+1)=l:=by injection hl
  have aJ:ops.size-i=(ops.size-(i+1))+1:=by simp at hi;omega
  rw[aJ,PJ];have cV:o∈ops.toList:=by simpa using qy ho
  simp only[lW] at h;split at h
  case h_2=>cases h
  rename_i d hd oC;rw[qz] at h;split at h
  .cases h
  rename_i hc;simp only[j5,not_or,Bool.not_eq_true] at hc;have hdp:pr≠d:=λe=>by subst e;simp at hc
  have R8:∀x,x∈acc->x.1≠d:=af5 hc.2;have go:∀(pt:Nat) (v:Value),lW pr l (acc++[(d,pt)])=some aa->tF o.op=true->v=G8 kv vv pt->(execOp a.eval o).run P w=.ok (.value v) w->wpOpsIn (FR rd) 0 P ops Q (i::List.range' (i+1) (ops.size-(i+1))) a w:=by
   intro pt v hp bp hv hx;have FQ:d<a.tmps.size:=af _ (Nq l hp (d,pt) (by simp));refine Dk ho oC bp hx ?_;have kT:=aAg cV a v;rw[hd] at kT ⊢;refine aiF l _ aa (i+1) _ hp wj (λx hx=>by rw[kT.size];exact af x hx) (by rw[Nz hdp];exact rv) (λx hx=>?_) (λa' h1 h2 h3=>hQ a' (kT.trans h1) (h2.trans (put_defers _ _ _)) h3);rcases dZ.1 hx with hx|hx
   .rw[Nz (R8 x hx)];exact FJ x hx
   .simp at hx;subst hx;rw[Du FQ];exact hv
  split at h
  .rename_i t pt e;rw[qz] at h;split at h
   case isFalse=>cases h
   rename_i jv;simp only[au] at jv;have ht:=aD jv.1;have wx:=lx jv.2;subst ht;have bM:a.eval (.tmp t)=.tuple #[kv,vv]:=by simpa [Act.eval] using rv
   refine go pt (G8 kv vv pt) h (by rw[e];rfl) rfl ?_;rcases(by omega:pt=0\/pt=1) with rfl|rfl<;>simp[execOp,e,bM,Instr.extract,G8]
  .rename_i t e;simp only[az] at h;obtain⟨pt,zg,h⟩:=h;have:=FJ _ (GS zg);exact go pt (a.eval (.tmp t)) h (by rw[e];rfl) (by simpa [Act.eval] using this) (by simp[execOp,e])
  .rename_i t e;simp only[az] at h;obtain⟨pt,zg,h⟩:=h;have:=FJ _ (GS zg);exact go pt (a.eval (.tmp t)) h (by rw[e];rfl) (by simpa [Act.eval] using this) (by simp[execOp,e])
  .cases h
def TM (ids:List Nat)(J j:Nat)(S:Snap):((S.kill ids J).st ids).o j=if j=J then .dead else(S.st ids).o j:=by
 show dq ids (zH ids J S.os) j=_;have:∀(is:List Nat) (os:List Ob),dq is (zH is J os) j=if j=J then .dead else dq is os j:=by
  intro is
  induction is with
  |nil=>intro os;simp[zH,dq]
  |cons i is ih=>
   intro os;cases os with
   |nil=>simp[zH,dq]
   |cons o os=>
    simp only[zH,dq];cases hb:Nat.beq i j
    .simp only[zyx];exact ih os
    .have:=aD hb;subst this;simp only[zyy];by_cases dC:i=J
     .subst dC;simp
     .simp[fS dC,dC]
 exact this ids S.os
def ab8 {N:Nat}{id:Nat}(L3:id≠cN){rm:Bool}{wr:Nat->Prop}{a:Act}{q:Res2}{x xi:Out}(th:(∀t,t∈q.pc.modR->aU q.mr t=true)/\∀j,j∈q.pc.modO->j∈q.mo)(dF:q.pc.ev Z N O=some xi)(bM:(gV ids id q).pc.ev Z N O=some x){e:Exit}{a':Act}{w':World}
 (ic:iz C w0 σ0 ids fn s rm wr a q.out q.ex xi e a' w'):Exit.inBlock id (iz C w0 σ0 ids fn s rm wr a (gV ids id q).out (gV ids id q).ex x) e a' w':=by
 have FY:∀bO S1,(bO,S1)∈q.ex->bO≠id->(bO,S1)∈q.ex.filter λx=> !Nat.beq x.1 id:=λbO S1 hm ay=>dK.2 ⟨hm,by simp[fS ay]⟩;have main:∀(o:Option Snap) (lr lo:List Nat),p9 id q.ex q.out=o->(∀M,o=some M->lr=kZ M q.mr/\lo=jS ids M q.mo)->(PC.block id lr lo q.pc).ev Z N O=some x->
        Exit.inBlock id (iz C w0 σ0 ids fn s rm wr a o (q.ex.filter λx=> !Nat.beq x.1 id) x) e a' w':=by
  intro o lr lo ho hl bM;simp only[PC.ev] at bM;rw[dF] at bM
  have fin:∀{ρ1:Env} {a':Act} {w':World},(∃M,o=some M/\Good C w0 σ0 (M.st ids) ρ1 (λ_=>False) a' w')->xi.env?=some ρ1->x=.next (O.join lr lo ρ1)->SameBut wr a a'->
   iz C w0 σ0 ids fn s rm wr a o (q.ex.filter λx=> !Nat.beq x.1 id) x .normal a' w':=by
        intro ρ1 a' w' hM y9 hx eH;obtain⟨M,hM,uO⟩:=hM;obtain⟨l1,l2⟩:=hl M hM;subst l1 l2;exact⟨_,M,hx,hM,eH,uO.joined (PC.ev_but q.pc O _ ρ1 dF y9) th.1 th.2⟩
  cases e with
  |normal=>
   obtain⟨ρ1,S2,e1,e2,eH,jw⟩:=ic;subst e1;simp only[bj] at bM;refine fin ?_ rfl bM.symm eH;rw[e2] at ho;obtain⟨M,h1,h2⟩:=MN (id:=id) q.ex jw;rw[ho] at h1;exact⟨M,h1,h2⟩
  |exit bO=>
   obtain⟨ρ1,S2,e1,e0,e2,eH,jw⟩:=ic;subst e1;simp only at bM;show if bO=id then _ else _;by_cases cJ:bO=id
   .subst cJ;simp only[lu,zyy,bj] at bM;simp only[if_true];refine fin ?_ rfl bM.symm eH;rw[<-ho];exact Uq jw q.ex q.out e2
   .simp only[fS cJ,zyx,bj] at bM;subst bM;simp only[cJ,if_false];exact⟨ρ1,S2,rfl,e0,FY _ _ e2 cJ,eH,jw⟩
  |ret=>
   cases rm with
   |false=>
    have hy:=ic;obtain⟨d,e1,_⟩:=hy;subst e1;simp only[bj] at bM;subst bM;exact ic
   |true=>
    obtain⟨ρ1,S2,e1,e2,eH,jw⟩:=ic;subst e1;simp only[fS (λe=>L3 e.symm:cN≠id),zyx,bj] at bM;subst bM;exact⟨ρ1,S2,rfl,FY _ _ e2 (λe=>L3 e.symm),eH,jw⟩
  |_=>exact ic.elim
 unfold gV at bM ⊢;cases hm:p9 id q.ex q.out with
 |none=>
  simp only[hm] at bM ⊢;exact main none [] [] hm (λM e=>by cases e) bM
 |some M=>
  simp only[hm] at bM ⊢;exact main (some M) _ _ hm (λM' e=>by cases e;exact⟨rfl,rfl⟩) bM
def ab6 {N id:Nat}{q:Res2}{x:Out}(bM:(gV ids id q).pc.ev Z N O=some x):∃xi,q.pc.ev Z N O=some xi:=by
 unfold gV at bM;cases hm:p9 id q.ex q.out<;>simp only[hm,PC.ev] at bM<;>cases dF:q.pc.ev Z N O<;>first|exact⟨_,rfl⟩|(rw[dF] at bM;cases bM)
def aj2 {es:List (D×D)}{idx:List Nat}(hn:idx.Nodup)(af:∀i,i∈idx->i<es.length)(aP:∀i,i<es.length->i∈idx):(iv es idx).Perm (jm (.map es)):=by
 have h1:idx.Perm (List.range es.length):=by
  rw[List.perm_ext_iff_of_nodup hn abi];intro i;rw[fR];exact⟨af i,aP i⟩
 have h2:iv es (List.range es.length)=jm (.map es):=by
  refine PA (by simp[iv,jm,D.m]) λi g1 g2=>?_;have hi:i<es.length:=by simpa [iv] using g1
  simp[iv,jm,D.m,aY hi]
 rw[<-h2];exact h1.map _
def aAp {es:List (D×D)}{idx:List Nat}(hn:idx.Nodup)(af:∀i,i∈idx->i<es.length):∃rest,(iv es idx++rest).Perm (jm (.map es)):=by
 refine⟨iv es ((List.range es.length).filter λi=> !idx.contains i),?_⟩;have e:iv es idx++iv es ((List.range es.length).filter λi=> !idx.contains i)=iv es (idx++(List.range es.length).filter λi=> !idx.contains i):=by simp[iv]
 rw[e];refine aj2 ?_ (λi hi=>?_) (λi hi=>?_)
 .rw[Jg];refine⟨hn,abi.filter _,λa ha b hb e=>?_⟩;subst e;have:=(dK.1 hb).2;simp[ha] at this
 .rcases dZ.1 hi with h|h
  .exact af i h
  .exact fR.1 (dK.1 h).1
 .by_cases h:i∈idx
  .exact jr _ h
  .exact jG _ (dK.2 ⟨fR.2 hi,by simp[h]⟩)
def aj3 (es:List (D×D))(idx:List Nat){i:Nat}{p:D×D}(h:es[i]?=some p):iv es (idx++[i])=iv es idx++[.tup [p.1,p.2]]:=by simp[iv,h]
def axf {N:Nat}{x y z code:Code}{k:Nat}{p:MP}(hp:Da x y k z=some p)(ihc:yc C Z fn s n ids R N code){rm:Bool}{S:Snap}{r:Res2}
 (hr:Db ids n p (cA x++(cA y++(cA z++cA code))) (λS=>comp C fn s n ids R rm code S) S=some r) {rd:Option Nat} {wr:Nat->Prop} {x0:Out} (gA:rm=false->rd=none/\σ0.fin) (hC:CtxOK C σ0) (hY:ur C Z w0 σ0)
 (gD:∀t,t∈cA (.loop (.seq x (.seq y (.block k (.seq z code)))))->wr t) (hn:a.tmps.size=n) (hg:Good C w0 σ0 (S.st ids) O (λ_=>False) a w) (he:r.pc.ev Z N O=some x0):
 (Code.loop (.seq x (.seq y (.block k (.seq z code))))).wpIn (FR rd) 0 C.P (iz C w0 σ0 ids fn s rm wr a r.out r.ex x0) a w:=by
 obtain⟨i1,i2,o1,o2,o3,l,rfl,rfl,rfl,hk,e1,e2,d1,g1,q1,d2,g2,q2,d3,g3,q3,oI,n1,n2,n3,n4,n5,n6⟩:=axd hp;subst hk;unfold Db at hr;split at hr
 case h_2=>cases hr;exact absurd he (nA _ _ _ _)
 rename_i J hJ;split at hr
 case h_2=>cases hr;exact absurd he (nA _ _ _ _)
 rename_i kt et L8;simp only at hr;split at hr
 case h_2=>cases hr;exact absurd he (nA _ _ _ _)
 rename_i q hq;rw[qz] at hr;split at hr
 case isFalse=>cases hr;exact absurd he (nA _ _ _ _)
 rename_i y7;cases hr;generalize Mr:cA (.region i1 p.ops1 false)++(cA (.cond (.tmp p.mo) .skip (.exit p.out))++(cA (.region i2 p.ops2 false)++cA code))=ws at*;simp only[au,l6] at y7;obtain⟨⟨⟨⟨⟨⟨⟨⟨c1,c2⟩,c3⟩,c4⟩,c5⟩,c6⟩,c7⟩,c8⟩,c9⟩:=y7;have hex:q.2.ex=[]:=abe.1 c1;have adK:J∉q.2.mo:=λh=>by rw[(rE _ _).2 h] at c2;cases c2
 simp only[afs,au,l6] at c3;obtain⟨⟨c3a,c3b⟩,c3c⟩:=c3;have ate:q.1.rs.getD p.it .none=.obj J 0:=Sh.beq_eq _ _ c3a;have Mf:dq ids q.1.os J=.it kt et:=Ob.beq_eq _ _ c3b;have as7:∀t,t∈p.aa.map (·.1)->t<n:=λt ht=>by have:=cM.1 c5 t ht;rwa [qF] at this
 have SG:p.nx<n:=by rwa [qF] at c6
 have F9:p.mo<n:=by rwa [qF] at c7
 have rv:p.pr<n:=by rwa [qF] at c8
 have Gb:=aD c9;obtain⟨hs,CI,cg⟩:=GK (C:=C) (w0:=w0) (σ0:=σ0) (ids:=ids) 8 hq;simp only[aB] at hs;obtain⟨q0,tp,ie⟩:=hs;obtain⟨qS,qR⟩:=q;simp only at*;subst ie;generalize hm:zP ws=m at*;generalize pQ:jS ids qS (gV ids p.next q0).mo=lo at*;have Sy:=ab7 (ids:=ids) (id:=p.next) (vP code tp);have asz:∀j,j∈lo->j∈(gV ids p.next q0).mo:=λj hj=>by rw[<-pQ] at hj;exact Dc hj
 have aI6:J∉lo:=λh=>adK (asz J h);have Gm:∃Ef,Nt ((gV ids p.next q0).pc.ev Z N) O J (p.aa.map (·.1)) (p.aa.map (·.2)) lo Ef/\x0=.exit p.out (O.put [] [] lo Ef):=by
  simp only[PC.ev] at he;cases rv:Nu ((gV ids p.next q0).pc.ev Z N) O J (p.aa.map (·.1)) (p.aa.map (·.2)) lo with
  |none=>rw[rv] at he;cases he
  |some y=>
   obtain⟨Ef,h1,rfl⟩:=Af.1 rv;rw[rv] at he;simp only[bj] at he;exact⟨Ef,h1,he.symm⟩
 obtain⟨Ef,⟨SU,arf⟩,hx0⟩:=Gm;generalize lJ:(O.o J).tget 1=es at*
 have jh:∀o,o∈p.ops1.toList->∀d,o.dst=some d->d∈ws:=λo ho d hd=>by
  rw[<-Mr];exact jr _ (A3.2 ⟨o,ho,hd⟩)
 have cZ:∀o,o∈p.ops2.toList->∀d,o.dst=some d->d∈ws:=λo ho d hd=>by
  rw[<-Mr];exact jG _ (jG _ (jr _ (A3.2 ⟨o,ho,hd⟩)))
 have hwc:∀d,d∈cA code->d∈ws:=λd hd=>by
  rw[<-Mr];exact jG _ (jG _ (jG _ hd))
 have Tv:∀t,t∈ws->wr t:=λt ht=>gD t (by rw[<-Mr] at ht;exact ht);have uU:∀t,t∈ws->aU m t=true:=λt ht=>by rw[<-hm];exact ab4 ht
 have Sv:∀t,aU m t=true->((qS.mask m).st ids).r t=.none:=λt ht=>by rw[GX,if_pos ht]
 have asG:∀t,isNone (((qS.mask m).st ids).r t)=false->aU m t=false:=λt ht=>by
  cases hb:aU m t with
  |false=>rfl
  |true=>rw[Sv t hb] at ht;cases ht
 have oL:((qS.mask m).st ids).r p.it=.obj J 0:=by
  rw[GX,c3c];show cG (qS.rs.getD p.it .none)=_;rw[ate];rfl
 have cQ:((qS.mask m).st ids).o J=.it kt et:=Mf;have kq:p.ops1[0]?=some o1:=by rw[<-qx,e1];rfl
 have fI:p.ops1[1]?=some o2:=by rw[<-qx,e1];rfl
 have ho3:p.ops2[0]?=some o3:=by rw[<-qx,e2];rfl
 have atz:List.range p.ops1.size=[0,1]:=by
  have:p.ops1.size=2:=by rw[<-AP,e1];rfl
  rw[this];rfl
 have wD:List.range p.ops2.size=0::List.range' 1 (p.ops2.size-1):=by
  have:p.ops2.size=l.length+1:=by rw[<-AP,e2];rfl
  rw[this,PK,PJ];rfl
 have key:∀(kk:Nat) (done vo:List D) (a':Act) (w':World),SameBut wr a a'->Good C w0 σ0 ((qS.mask m).st ids) ((O.put [] [] lo vo).setO J (.tup [.list done,es])) (λ_=>False) a' w'->
  (∀ys,(done++ys).Perm (jm es)->mq ((gV ids p.next q0).pc.ev Z N) O J es (p.aa.map (·.1)) (p.aa.map (·.2)) lo ys done vo=some Ef)->done.length+kk=(jm es).length+1->
  Code.roundsIn (FR rd) 0 C.P (.seq (.region i1 p.ops1 false) (.seq (.cond (.tmp p.mo) .skip (.exit p.out)) (.block p.next (.seq (.region i2 p.ops2 false) code)))) (iz C w0 σ0 ids fn s rm wr a none [(p.out,(qS.mask m).kill ids J)] x0) kk a' w':=by
  intro kk
  induction kk with
  |zero=>
   intro done vo a' w' _ lL _ hlen;exfalso;obtain⟨V,own,hv,h⟩:=lL;have bt:=h.objs J;rw[cQ] at bt;obtain⟨kb,mb,arr,clock,gY,idx,h1,h2,h3,ay,h4,h5,h6,h7,h8,h9,jt,uJ⟩:=bt;simp only[Env.setO,aS] at h6;injection h6 with h6;injection h6 with yY yZ;injection yZ with yZ _;injection yY with yY;subst yY;subst yZ;have hle:idx.length<=arr.size:=by
        have:=List.Nodup.length_le_of_subset h7 (l₂:=List.range arr.size) (λi hi=>fR.2 (h8 i hi));simpa using this
   simp[iv,jm,D.m] at hlen;omega
  |succ kk ih=>
   intro done vo a' w' kT lL aP hlen;rw[roundsIn_succ];obtain⟨V,own,hv,h⟩:=lL;have bt:=h.objs J;rw[cQ] at bt;obtain⟨kb,mb,arr,clock,gY,idx,h1,h2,h3,ay,h4,h5,h6,h7,h8,h9,jt,uJ⟩:=bt;simp only[Env.setO,aS] at h6;injection h6 with h6;injection h6 with yY yZ;injection yZ with yZ _;injection yY with yY;subst yY;subst yZ;have ni:=h.regs p.it;rw[oL] at ni;have L5:a'.eval (.tmp p.it)=.pointer (some ⟨kb,0,none⟩):=by
        have:=ni.2 rfl;simp only[Act.eval];rw[this];exact h1
   have wC:a'.tmps.size=n:=kT.size.trans hn;obtain⟨w1,ae8,Me⟩:=axq (P:=C.P) h5 h4 jt h8 o1.type;have GA:Below w'.heap.size w' w1:=by rcases ae8 with rfl|rfl;exact .refl _ _;exact⟨rfl,rfl,rfl,aZ _,λ_ _=>rfl⟩
   have C1:w1.heap=w'.heap:=by rcases ae8 with rfl|rfl<;>rfl
   have hkl:kb<w'.heap.size:=(h.owns kb J h2).2.1;have uR:mb<w'.heap.size:=(h.owns mb J h3).2.1;refine wpIn_seq (wpIn_region ?_);rw[atz];rcases Me with⟨Sf,aq⟩|⟨i,e,CM,L1,aq⟩
   ·
        refine Dk kq g1 (by rw[q1];rfl) (v:=.tuple #[.bool false]) (w':=w1) (by simp only[execOp,q1,L5];simp[aq]) ?_;rw[d1]
        refine Dk fI g2 (by rw[q2];rfl) (v:=.bool false) (w':=w1) (by
         have:(a'.put (some p.nx) (.tuple #[.bool false])).eval (.tmp p.nx)=.tuple #[.bool false]:=by simp only[Act.eval];exact Du (by omega)
         simp only[execOp,q2,this];simp[Instr.extract]) ?_
        rw[d2];simp only[wpOpsIn]
        have zr:SameBut (λt=>t∈ws) a' ((a'.put (some p.nx) (.tuple #[.bool false])).put (some p.mo) (.bool false)):=by
         have s1:=SameBut.put a' (some p.nx) (.tuple #[.bool false]) a'.defers;have s2:=SameBut.put (a'.put (some p.nx) (.tuple #[.bool false])) (some p.mo) (.bool false) (a'.put (some p.nx) (.tuple #[.bool false])).defers;exact(s1.mono λt e=>by cases e;exact jh o1 (by rw[e1];simp) _ d1).trans (s2.mono λt e=>by cases e;exact jh o2 (by rw[e1];simp) _ d2)
        generalize y4:(a'.put (some p.nx) (.tuple #[.bool false])).put (some p.mo) (.bool false)=a1 at zr;have Sw:a1.eval (.tmp p.mo)=.bool false:=by
         rw[<-y4];simp only[Act.eval];exact Du (by rw[size_put];omega)
        have pO:a1.defers=a'.defers:=by rw[<-y4,put_defers,put_defers]
        refine wpIn_seq (wpIn_cond_false Sw (wpIn_exit ?_));have zm:(iv gY idx++[]).Perm (jm (.map gY)):=by
         rw[vD];exact aj2 h7 (λi hi=>by rw[h9];exact h8 i hi) (λi hi=>Sf i (by omega))
        have ae7:=aP [] zm;simp only[mq,bj] at ae7;subst ae7;refine⟨_,_,hx0,n5,A5.2 rfl,kT.trans (zr.mono Tv),?_⟩;refine⟨V,own,hv,?_⟩
        refine h.step (S':=((qS.mask m).kill ids J).st ids) (O':=O.put [] [] lo vo) (A':=λ_=>False) (λj=>j=J) pO (.refl V) (h.ok.below GA) (λ_ _ _ hx=>.inl hx) (λ_ _ hx=>.inl hx) (GA.mono h.below.size) ⟨λ_=>aZ _,λ_ _=>rfl⟩
         (λj hj=>⟨by rw[TM,if_neg hj],by simp[Env.setO,bJ _ _ hj],rfl,λb hb=>⟨hb,by rw[C1]⟩⟩) (λj hj=>?_) (λb j hb=>?_) (λ_=>id) (λt=>?_) (λ_ hf=>hf.elim) (λb hb _=>by rw[C1]) (λb j hb=>.inl ⟨j,hb⟩) (λj hj=>?_)
        .rw[TM,if_pos hj];trivial
        .obtain⟨b1,b2,b3,b4⟩:=h.owns b j hb;exact⟨b1,by rw[C1];exact b2,b3,b4⟩
        .by_cases ht:t∈ws
         .refine .inr ⟨?_,λgs s' e=>absurd e (Snap.noOpt _ _ t gs s')⟩;have:(((qS.mask m).kill ids J).st ids).r t=.none:=Sv t (uU t ht);rw[this];trivial
         .exact .inl ⟨rfl,zr.get t ht,rfl⟩
        .rw[TM,if_pos hj];intro e;cases e
   ·
        obtain⟨pd,SV⟩:∃pd,gY[i]?=some pd:=⟨_,aY (by rw[h9];exact(eA.1 CM).1)⟩
        obtain⟨bD,ct⟩:=uJ i e pd CM SV;generalize C2:({w1 with heap:=w1.heap.setIfInBounds kb (.mapIter (some mb) clock (gL arr (idx++[i])) clock)}:World)=w2 at aq;have ae9:w2.heap[kb]?=some (.mapIter (some mb) clock (gL arr (idx++[i])) clock):=by rw[<-C2];simp[C1,hkl]
        have zy:∀b,b≠kb->w2.heap[b]?=w'.heap[b]?:=λb hb=>by rw[<-C2];simp only[C1];rw[aaT (yb hb)]
        have aJW:w2.heap.size=w'.heap.size:=by rw[<-C2];simp[C1]
        have afa:w2.heap[mb]?=some (.map arr clock):=by rw[zy mb (yb ay)];exact h4
        refine Dk kq g1 (by rw[q1];rfl) (v:=.tuple #[.bool true,e.key,e.val]) (w':=w2) (by simp only[execOp,q1,L5];simp[aq]) ?_;rw[d1]
        refine Dk fI g2 (by rw[q2];rfl) (v:=.bool true) (w':=w2) (by
         have:(a'.put (some p.nx) (.tuple #[.bool true,e.key,e.val])).eval (.tmp p.nx)=.tuple #[.bool true,e.key,e.val]:=by simp only[Act.eval];exact Du (by omega)
         simp only[execOp,q2,this];simp[Instr.extract]) ?_
        rw[d2];simp only[wpOpsIn]
        have zr:SameBut (λt=>t∈ws) a' ((a'.put (some p.nx) (.tuple #[.bool true,e.key,e.val])).put (some p.mo) (.bool true)):=by
         have s1:=SameBut.put a' (some p.nx) (.tuple #[.bool true,e.key,e.val]) a'.defers;have s2:=SameBut.put (a'.put (some p.nx) (.tuple #[.bool true,e.key,e.val])) (some p.mo) (.bool true) (a'.put (some p.nx) (.tuple #[.bool true,e.key,e.val])).defers;exact(s1.mono λt e=>by cases e;exact jh o1 (by rw[e1];simp) _ d1).trans (s2.mono λt e=>by cases e;exact jh o2 (by rw[e1];simp) _ d2)
        have aep:(((a'.put (some p.nx) (.tuple #[.bool true,e.key,e.val])).put (some p.mo) (.bool true))).eval (.tmp p.it)=.pointer (some ⟨kb,0,none⟩):=by
         simp only[Act.eval] at L5 ⊢;rw[Nz n2,Nz n1];exact L5
        generalize y4:(a'.put (some p.nx) (.tuple #[.bool true,e.key,e.val])).put (some p.mo) (.bool true)=a1 at zr aep;have Sw:a1.eval (.tmp p.mo)=.bool true:=by
         rw[<-y4];simp only[Act.eval];exact Du (by rw[size_put];omega)
        have pO:a1.defers=a'.defers:=by rw[<-y4,put_defers,put_defers]
        refine wpIn_seq (wpIn_cond_true Sw (wpIn_skip ?_));refine wpIn_block (wpIn_seq (wpIn_region ?_));rw[wD];refine Dk ho3 g3 (by rw[q3];rfl) (v:=.tuple #[e.key,e.val]) (w':=w2) (by simp only[execOp,q3,aep];simp[aoY ae9 afa jt CM]) ?_;rw[d3]
        have hs3:SameBut (λt=>t∈ws) a1 (a1.put (some p.pr) (.tuple #[e.key,e.val])):=
         (SameBut.put a1 (some p.pr) (.tuple #[e.key,e.val]) a1.defers).mono λt e=>by cases e;exact cZ o3 (by rw[e2];simp) _ d3
        have aeZ:a1.tmps.size=n:=zr.size.trans wC;refine aiF (kv:=e.key) (vv:=e.val) l [] p.aa 1 _ oI (by rw[e2];rfl) (λx hx=>by rw[hs3.size,aeZ];exact as7 _ (cd.2 ⟨x,hx,rfl⟩)) (Du (by rw[aeZ];exact rv)) (λx hx=>by cases hx) (λa2 eH dv as4=>?_);have Te:SameBut (λt=>t∈ws) a' a2:=(zr.trans hs3).trans (eH.mono λt ⟨o,ho,hd⟩=>cZ o ho t hd);have arG:a2.defers=a'.defers:=by rw[dv,put_defers,pO]
        have atw:Good C w0 σ0 (((qS.mask m).start (p.aa.map (·.1)) (p.aa.map λx=>bif Nat.beq x.2 0 then kt else et)).st ids) ((O.put (p.aa.map (·.1)) ((p.aa.map (·.2)).map (D.tup [pd.1,pd.2]).tget) lo vo).setO J (.tup [.list (iv gY idx++[.tup [pd.1,pd.2]]),.map gY])) (λ_=>False) a2 w2:=by
         have FM:Below w0.heap.size w' w2:=⟨by rw[<-C2];exact GA.os,by rw[<-C2];exact GA.tape,by rw[<-C2];exact GA.output,by omega,λb hb=>zy b (λe=>by subst e;have:=(h.owns b J h2).1;omega)⟩
         have kr:V.ok w2:=by
          refine⟨λb o v hc=>?_,λb es hc=>?_,h.ok.fz λb o v hc=>zy b λe=>by subst e;rw[(h.owns b J h2).2.2.1 o] at hc;cases hc⟩
          .have iZ:b≠kb:=λe=>by subst e;rw[(h.owns b J h2).2.2.1 o] at hc;cases hc
           have:=h.ok.c b o v hc;simp only[World.cell?] at this ⊢;rw[zy b iZ];exact this
          .have iZ:b≠kb:=λe=>by subst e;rw[(h.owns b J h2).2.2.2] at hc;cases hc
           exact(h.ok.m b es hc).keep (zy b iZ)
         have ic:∀j,((O.put (p.aa.map (·.1)) ((p.aa.map (·.2)).map (D.tup [pd.1,pd.2]).tget) lo vo).setO J (.tup [.list (iv gY idx++[.tup [pd.1,pd.2]]),.map gY])).o j=if j=J then .tup [.list (iv gY idx++[.tup [pd.1,pd.2]]),.map gY] else putL O.o lo vo j:=λj=>by
          simp only[Env.setO,fq];rfl
         refine⟨V,own,hv,h.step (λj=>j=J) arG (.refl V) kr (λ_ _ _ hx=>.inl hx) (λ_ _ hx=>.inl hx) FM ⟨λ_=>aZ _,λ_ _=>rfl⟩
          (λj hj=>⟨rfl,by rw[ic,if_neg hj];simp[Env.setO,bJ _ _ hj,Env.put],rfl,λb hb=>⟨hb,zy b (λe=>by subst e;rw[h2] at hb;cases hb;exact hj rfl)⟩⟩) (λj hj=>?_) (λb j hb=>?_) (λ_=>id) (λt=>?_) (λ_ hf=>hf.elim)
          (λb hb ho=>zy b (λe=>by subst e;rw[h2] at ho;cases ho)) (λb j hb=>.inl ⟨j,hb⟩) (λj hj=>?_)⟩
         .subst hj;have:(((qS.mask m).start (p.aa.map (·.1)) (p.aa.map λx=>bif Nat.beq x.2 0 then kt else et)).st ids).o j=.it kt et:=Mf;rw[this];refine⟨kb,mb,arr,clock,gY,idx++[i],h1,h2,h3,ay,afa,ae9,by rw[ic,if_pos rfl,aj3 gY idx SV],?_,?_,h9,jt,uJ⟩
          .rw[Jg];exact⟨h7,by simp,λa ha b hb e=>by simp at hb;subst hb;subst e;exact L1 ha⟩
          .intro i' dB;rcases dZ.1 dB with h|h
           .exact h8 i' h
           .simp at h;subst h;exact(eA.1 CM).1
         .obtain⟨b1,b2,b3,b4⟩:=h.owns b j hb;exact⟨b1,by omega,b3,b4⟩
         .have hc:Compat ((qS.mask m).st ids) hv (((qS.mask m).start (p.aa.map (·.1)) (p.aa.map λx=>bif Nat.beq x.2 0 then kt else et)).st ids) hv:=⟨λ_=>aZ _,λ_ _=>rfl⟩
          refine .inr ⟨?_,λgs s' e=>absurd e (Snap.noOpt _ _ t gs s')⟩;show aG C _ _ V hv (cG ((tZ (p.aa.map (·.1)) (p.aa.map λx=>bif Nat.beq x.2 0 then kt else et) ((qS.mask m).rs.map uP)).getD t .none)) (a2.tmps.getD t undef) (putL O.r (p.aa.map (·.1)) ((p.aa.map (·.2)).map (D.tup [pd.1,pd.2]).tget) t);rcases XF (p.aa.map (·.1)) (p.aa.map λx=>bif Nat.beq x.2 0 then kt else et) ((qS.mask m).rs.map uP) (by simp) c4 t with e|⟨mR,sK⟩|⟨i',y,mR,sK,Fb⟩
          .rw[e];trivial
          .rw[sK,Dt _ _ _ _ mR];have e3:((qS.mask m).rs.map uP).getD t .none=uP ((qS.mask m).rs.getD t .none):=by
            simp only[aH,cq];cases(qS.mask m).rs[t]?<;>rfl
           rw[e3];by_cases htw:t∈ws
           .have CS:=Sv t (uU t htw);change cG ((qS.mask m).rs.getD t .none)=.none at CS;generalize (qS.mask m).rs.getD t .none=s' at CS;cases s'<;>simp[cG] at CS<;>trivial
           .have hr:=h.regs t;change aG C _ _ V hv (cG ((qS.mask m).rs.getD t .none)) _ (O.r t) at hr;rw[Te.get t htw];generalize (qS.mask m).rs.getD t .none=s' at hr;cases s' with
            |yv=>trivial
            |opt gs s=>trivial
            |none=>trivial
            |fclo f c=>exact aG.mono' (.refl V) hc (λ_ _ e=>by cases e) hr
            |agg l=>exact aG.mono' (.refl V) hc (λ_ _ e=>by cases e) hr
            |dat t=>exact hr
            |obj j v=>exact aG.mono' (.refl V) hc (λ_ _ e=>by cases e) hr
            |ptr j v o=>exact aG.mono' (.refl V) hc (λ_ _ e=>by cases e) hr
            |eptr j v o q=>exact aG.mono' (.refl V) hc (λ_ _ e=>by cases e) hr
          .rw[Fb];have ase:i'<p.aa.length:=by have:=(eO.1 mR).1;simpa using this
           rw[VR _ (p.aa.map (·.1)) _ i' t (rH c4) (by simp) mR];obtain⟨xa,nk⟩:∃xa,p.aa[i']?=some xa:=⟨_,aY ase⟩
           simp only[cq,nk,lC,bj] at mR sK;subst mR;subst sK;rw[as4 xa (j9 nk)];have hd:((p.aa.map (·.2)).map (D.tup [pd.1,pd.2]).tget).getD i' .none=(D.tup [pd.1,pd.2]).tget xa.2:=by simp[aH,nk]
           rw[hd];have h2x:xa.2<=1:=by
            rcases VJ l oI (λx hx=>by cases hx) xa (j9 nk) with h|h
            .cases h
            .exact h.1
           rcases(by omega:xa.2=0\/xa.2=1) with e0|e0<;>rw[e0]
           .exact bD
           .exact ct
         .have:(((qS.mask m).start (p.aa.map (·.1)) (p.aa.map λx=>bif Nat.beq x.2 0 then kt else et)).st ids).o j=.it kt et:=by rw[hj];exact Mf
          rw[this];intro e;cases e
        have as5:=aj3 gY idx SV;obtain⟨rest,tw⟩:∃rest,(iv gY idx++(D.tup [pd.1,pd.2])::rest).Perm (jm (.map gY)):=by
         obtain⟨rest,hr⟩:=aAp (es:=gY) (idx:=idx++[i]) (by rw[Jg];exact⟨h7,by simp,λa ha b hb e=>by simp at hb;subst hb;subst e;exact L1 ha⟩) (λi' dB=>by
          rcases dZ.1 dB with h|h
          .rw[h9];exact h8 i' h
          .simp at h;subst h;rw[h9];exact(eA.1 CM).1)
         rw[as5] at hr;exact⟨rest,by simpa using hr⟩
        have jN:=aP _ tw;simp only[mq] at jN;split at jN
        case h_2=>cases jN
        rename_i ρ2 LN;obtain⟨xi,dF⟩:=ab6 LN;refine wpIn_mono (ihc rm _ q0 tp rd w0 σ0 wr _ xi a2 w2 gA hC hY (λt ht=>Tv t (hwc t ht)) (Te.size.trans wC) atw dF) λee a3 w3 ic=>?_;have ru:=ab8 n6 (vP code tp) dF LN ic;have conv:∀ee a3 w3,iz C w0 σ0 ids fn s rm wr a2 (gV ids p.next q0).out (gV ids p.next q0).ex (.next ρ2) ee a3 w3->Exit.then (Code.roundsIn (FR rd) 0 C.P (.seq (.region i1 p.ops1 false) (.seq (.cond (.tmp p.mo) .skip (.exit p.out)) (.block p.next (.seq (.region i2 p.ops2 false) code)))) (iz C w0 σ0 ids fn s rm wr a none [(p.out,(qS.mask m).kill ids J)] x0) kk) (iz C w0 σ0 ids fn s rm wr a none [(p.out,(qS.mask m).kill ids J)] x0) ee a3 w3:=by
         intro ee a3 w3 ho;cases ee with
         |normal=>
          obtain⟨ρ3,T,f1,f2,f3,f4⟩:=ho;cases f1;refine ih (iv gY idx++[.tup [pd.1,pd.2]]) (lo.map ρ2.o) a3 w3 (kT.trans ((Te.mono Tv).trans f3)) ?_ (λys oM=>?_) (by simp at hlen ⊢;omega)
          .have uO:Good C w0 σ0 (qS.st ids) ρ2 (λ_=>False) a3 w3:=by
            have:=f4.meet2 (x:=qS)
            rwa [CI T f2] at this
           obtain⟨σ3,Ab,Gx,fD⟩:=uO;have R5:=PC.ev_but _ _ _ ρ2 LN rfl;refine⟨σ3,Ab,Gx,(fD.maskR m).env (Snap.noOpt _ _) (λt ht=>?_) (λj hj=>?_)⟩
           .have CS:=asG t ht
            have cY:t∉(gV ids p.next q0).pc.modR:=λfG=>by
                 have:=Sy.1 t fG;have h2:aU (Nat.lor m (gV ids p.next q0).mr) t=true:=by rw[gU,this,ui]
                 rw[Gb,CS] at h2;cases h2
            rw[R5.r t cY]
            have tl:t∉p.aa.map (·.1):=λaW=>by
                 have:aU m t=true:=by
                  refine uU t ?_;obtain⟨xa,nk,rfl⟩:=cd.1 aW;rcases VJ l oI (λx hx=>by cases hx) xa nk with h|⟨_,o,ho,hd⟩
                  .cases h
                  .exact cZ o (by rw[e2];exact fy _ ho) _ hd
                 rw[CS] at this;cases this
            show O.r t=putL O.r (p.aa.map (·.1)) _ t;rw[Dt _ _ _ _ tl]
           .have hjd:pZ (dq ids qS.os j)=false:=hj;show bZ (putL O.o lo (lo.map ρ2.o)) J _ j=ρ2.o j;by_cases CN:j=J
            .subst CN;rw[aS,R5.o j (λfG=>adK (Sy.2 j fG))];simp[Env.setO,aS]
            .rw[bJ _ _ CN,vf];split
             .rfl
             .rename_i ia;have cY:j∉(gV ids p.next q0).pc.modO:=λfG=>ia (by rw[<-pQ];exact dK.2 ⟨Sy.2 j fG,by rw[hjd];rfl⟩);rw[R5.o j cY];simp only[Env.setO,bJ _ _ CN];exact(VS _ _ _ _ ia).symm
          .have:=aP ((D.tup [pd.1,pd.2])::ys) (by simpa using oM);simp only[mq,LN] at this;exact this
         |exit id=>obtain⟨ρ3,T,f1,_⟩:=ho;cases f1
         |ret=>
          cases rm with
          |false=>obtain⟨d,f1,_⟩:=ho;cases f1
          |true=>obtain⟨ρ3,T,f1,_⟩:=ho;cases f1
         |_=>exact ho.elim
        cases ee with
        |exit id=>
         simp only[Exit.inBlock] at ru;show if id=p.next then _ else _;split
         .rename_i cJ;rw[if_pos cJ] at ru;exact conv .normal a3 w3 ru
         .rename_i cJ;rw[if_neg cJ] at ru;exact conv (.exit id) a3 w3 ru
        |normal=>exact conv .normal a3 w3 ru
        |ret=>exact conv .ret a3 w3 ru
        |panic c=>exact ic.elim
        |goto l=>exact ic.elim
        |_=>exact ic.elim
 have hgq:Good C w0 σ0 (qS.st ids) O (λ_=>False) a w:=cg hg;obtain⟨V,own,hv,h⟩:=hgq;have bt:=h.objs J;have:(qS.st ids).o J=.it kt et:=Mf;rw[this] at bt;obtain⟨kb,mb,arr,clock,gY,idx,h1,h2,h3,ay,h4,h5,h6,h7,h8,h9,jt,uJ⟩:=bt;have hρJ:O.o J=.tup [.list [],es]:=by
  rw[h6] at SU lJ;simp[D.tget] at SU lJ;rw[h6,SU,<-lJ]
 have y9:(O.put [] [] lo (lo.map O.o)).setO J (.tup [.list [],es])=O:=by
  rw[Env.put_self];show Env.mk _ _=_;have:bZ O.o J (.tup [.list [],es])=O.o:=by
   funext j;rw[fq];split
   .rename_i e;rw[e];exact hρJ.symm
   .rfl
  rw[this]
 exact wpIn_loop_rounds _ (key ((jm es).length+1) [] (lo.map O.o) a w (.refl _ _) (by rw[y9];exact⟨V,own,hv,h.maskR m⟩) (λys oM=>arf ys oM) (by simp))
def anx {N:Nat}(ef:gR C Z)(hR:PS C n ids Z R):∀(k:Nat) (c:Code),sizeOf c<k->yc C Z fn s n ids R N c:=by
 intro k;refine Nat.rec (λc h=>absurd h (Nat.not_lt_zero _)) (λk IH=>?_) k;intro c hc;cases c with
 |skip=>
  intro rm S r h rd w0 σ0 wr O x a w gA hC hY gD hn hg he;simp only[comp,bj] at h;subst h;simp only[PC.ev,bj] at he;subst he;exact wpIn_skip ⟨O,S,rfl,rfl,.refl _ _,hg⟩
 |region id ops draw=>
  intro rm S r h rd w0 σ0 wr O x a w gA hC hY gD hn hg he;simp only[comp,aB] at h;obtain⟨q,hq,rfl⟩:=h;simp only[PC.ev,aB] at he;obtain⟨O',hr,rfl⟩:=he;exact hR id ops draw S q hq rd w0 σ0 O O' a w _ hC hY hn hg hr (λa' w' eh lL=>⟨O',q.1,rfl,rfl,eh.mono (λt ⟨o,h1,h2⟩=>gD t (A3.2 ⟨o,h1,h2⟩)),lL⟩)
 |seq c1 c2=>
  have wI:=IH c1 (by simp at hc;omega);have wJ:=IH c2 (by simp at hc;omega);intro rm S r h rd w0 σ0 wr O x a w gA hC hY gD hn hg he;have jh:∀t,t∈cA c1->wr t:=λt ht=>gD t (jr _ ht);have cZ:∀t,t∈cA c2->wr t:=λt ht=>gD t (jG _ ht);simp only[comp,az] at h;obtain⟨q,hq,h⟩:=h;split at h
  .rename_i kR;cases h;refine wpIn_seq (wpIn_mono (wI rm S _ hq rd w0 σ0 wr O x a w gA hC hY jh hn hg he) λe a' w' ho=>?_);cases e with
   |normal=>obtain⟨_,_,_,h2,_⟩:=ho;rw[kR] at h2;cases h2
   |_=>exact ho
  .rename_i S1 kR;simp only[aB] at h;obtain⟨p,hp,rfl⟩:=h;simp only[PC.ev] at he
   have key:∀x1,q.pc.ev Z N O=some x1->(match some x1 with|some (.next O')=>p.pc.ev Z N O'|y=>y)=some x->(Code.seq c1 c2).wpIn (FR rd) 0 C.P (iz C w0 σ0 ids fn s rm wr a p.out (q.ex++p.ex) x) a w:=by
      intro x1 h1 h2;refine wpIn_seq (wpIn_mono (wI rm S _ hq rd w0 σ0 wr O x1 a w gA hC hY jh hn hg h1) λe a' w' ho=>?_);have other:∀{e:Exit},e≠.normal->iz C w0 σ0 ids fn s rm wr a q.out q.ex x1 e a' w'->x1=x->iz C w0 σ0 ids fn s rm wr a p.out (q.ex++p.ex) x e a' w':=by
       intro e ay ho hx;subst hx;exact ho.mono (λy hy=>jr _ hy) (.refl _ _) (λe=>absurd e ay)
      cases e with
      |normal=>
       obtain⟨ρ1,S2,e1,e2,eH,jw⟩:=ho;subst e1;rw[kR] at e2;cases e2;simp only at h2;refine wpIn_mono (wJ rm S1 _ hp rd w0 σ0 wr ρ1 x a' w' gA hC hY cZ (eH.size.trans hn) jw h2) λe a2 w2 fI=>?_;exact fI.mono (λy hy=>jG _ hy) eH (λ_=>rfl)
      |exit id=>
       refine other (by simp) ho ?_;obtain⟨ρ1,S2,e1,_⟩:=ho;subst e1;simpa using h2
      |ret=>
       refine other (by simp) ho ?_;cases rm with
       |false=>obtain⟨d,e1,_⟩:=ho;subst e1;simpa using h2
       |true=>obtain⟨ρ1,S2,e1,_⟩:=ho;subst e1;simpa using h2
      |_=>exact ho.elim
   cases h1:q.pc.ev Z N O with
   |none=>rw[h1] at he;simp at he
   |some x1=>rw[h1] at he;exact key x1 h1 he
 |cond c c1 c2=>
  have wI:=IH c1 (by simp at hc;omega);have wJ:=IH c2 (by simp at hc;omega);intro rm S r h rd w0 σ0 wr O x a w gA hC hY gD hn hg he;have jh:∀t,t∈cA c1->wr t:=λt ht=>gD t (jr _ ht);have cZ:∀t,t∈cA c2->wr t:=λt ht=>gD t (jG _ ht);simp only[comp] at h;split at h
  case h_2=>cases h;exact absurd he (nA _ _ _ _)
  rename_i e hu;simp only[az,aB] at h;obtain⟨q,hq,p,hp,rfl⟩:=h;have hb:∃b,a.eval c=.bool b/\e.ev O=.v (.bool b):=by
   obtain⟨V,own,hv,hi⟩:=hg;have:=cu (gs:=[]) hi hC rfl hu;generalize a.eval c=v at this;generalize e.ev O=d at this;cases this with|bool b=>exact⟨b,rfl,rfl⟩
  obtain⟨b,jN,dA⟩:=hb;have th:=vP c1 hq;have Ga:=vP c2 hp;have main:∀(o:Option Snap) (lr lo:List Nat) (rx:Res2),rx=⟨.ite e lr lo q.pc p.pc,o,q.ex++p.ex,Nat.lor q.mr p.mr,j1 q.mo p.mo⟩->
        (∀M,o=some M->lr=kZ M (Nat.lor q.mr p.mr)/\lo=jS ids M (j1 q.mo p.mo))->
        (∀S1 ρ1 a w,q.out=some S1->Good C w0 σ0 (S1.st ids) ρ1 (λ_=>False) a w->∃M,o=some M/\Good C w0 σ0 (M.st ids) ρ1 (λ_=>False) a w)->
        (∀S1 ρ1 a w,p.out=some S1->Good C w0 σ0 (S1.st ids) ρ1 (λ_=>False) a w->∃M,o=some M/\Good C w0 σ0 (M.st ids) ρ1 (λ_=>False) a w)->
        rx.pc.ev Z N O=some x->(Code.cond c c1 c2).wpIn (FR rd) 0 C.P (iz C w0 σ0 ids fn s rm wr a rx.out rx.ex x) a w:=by
   intro o lr lo rx hrx hl tu oI bM;subst hrx;simp only[PC.ev,dA,D.b_bool] at bM;have fin:∀(ci:Code) (qi:Res2) (xi:Out),(∀y,y∈qi.ex->y∈q.ex++p.ex)->(∀t,t∈qi.pc.modR->aU (Nat.lor q.mr p.mr) t=true)->(∀j,j∈qi.pc.modO->j∈j1 q.mo p.mo)->
    (∀S1 ρ1 a w,qi.out=some S1->Good C w0 σ0 (S1.st ids) ρ1 (λ_=>False) a w->∃M,o=some M/\Good C w0 σ0 (M.st ids) ρ1 (λ_=>False) a w)->
    qi.pc.ev Z N O=some xi->(match some xi with|some (.next O')=>some (Out.next (O.join lr lo O'))|y=>y)=some x->
    ci.wpIn (FR rd) 0 C.P (iz C w0 σ0 ids fn s rm wr a qi.out qi.ex xi) a w->ci.wpIn (FR rd) 0 C.P (iz C w0 σ0 ids fn s rm wr a o (q.ex++p.ex) x) a w:=by
        intro ci qi xi hex kS ng kR dF hx hwp;refine wpIn_mono hwp λee a' w' ho=>?_;have other:ee≠.normal->xi=x->iz C w0 σ0 ids fn s rm wr a o (q.ex++p.ex) x ee a' w':=by
         intro ay kV;subst kV;exact ho.mono hex (.refl _ _) (λe=>absurd e ay)
        cases ee with
        |normal=>
         obtain⟨ρ1,S2,e1,e2,eH,jw⟩:=ho;subst e1;simp only[bj] at hx;subst hx;obtain⟨M,hM,uO⟩:=kR S2 ρ1 a' w' e2 jw;obtain⟨l1,l2⟩:=hl M hM;subst l1 l2;exact⟨_,M,rfl,hM,eH,uO.joined (PC.ev_but qi.pc O _ ρ1 dF rfl) kS ng⟩
        |exit id=>
         refine other (by simp) ?_;obtain⟨ρ1,S2,e1,_⟩:=ho;subst e1;simpa using hx
        |ret=>
         refine other (by simp) ?_;cases rm with
         |false=>obtain⟨d,e1,_⟩:=ho;subst e1;simpa using hx
         |true=>obtain⟨ρ1,S2,e1,_⟩:=ho;subst e1;simpa using hx
        |_=>exact ho.elim
   refine wpIn_cond jN ?_;cases b with
   |true=>
    simp only[zyy] at bM;cases dF:q.pc.ev Z N O with
    |none=>rw[dF] at bM;simp at bM
    |some xi=>
     rw[dF] at bM;refine fin c1 q xi (λy hy=>jr _ hy) (λt ht=>?_) (λj hj=>rF.2 (.inl (th.2 j hj))) tu dF bM (wI rm S _ hq rd w0 σ0 wr O xi a w gA hC hY jh hn hg dF);rw[gU,th.1 t ht];rfl
   |false=>
    simp only[zyx] at bM;cases dF:p.pc.ev Z N O with
    |none=>rw[dF] at bM;simp at bM
    |some xi=>
     rw[dF] at bM;refine fin c2 p xi (λy hy=>jG _ hy) (λt ht=>?_) (λj hj=>rF.2 (.inr (Ga.2 j hj))) oI dF bM (wJ rm S _ hp rd w0 σ0 wr O xi a w gA hC hY cZ hn hg dF);rw[gU,Ga.1 t ht,ui]
  have tu:∀S1 ρ1 a w,q.out=some S1->Good C w0 σ0 (S1.st ids) ρ1 (λ_=>False) a w->∃M,nq q.out p.out=some M/\Good C w0 σ0 (M.st ids) ρ1 (λ_=>False) a w:=by
   intro S1 ρ1 a w e1 g1;rw[e1];obtain⟨M,hM⟩:=@agr S1 p.out;exact⟨M,hM,agp g1 hM⟩
  have oI:∀S1 ρ1 a w,p.out=some S1->Good C w0 σ0 (S1.st ids) ρ1 (λ_=>False) a w->∃M,nq q.out p.out=some M/\Good C w0 σ0 (M.st ids) ρ1 (λ_=>False) a w:=by
   intro S1 ρ1 a w e1 g1;rw[e1];obtain⟨M,hM⟩:=@ags q.out S1;exact⟨M,hM,agq g1 hM⟩
  cases hm:nq q.out p.out with
  |none=>
   rw[hm] at tu oI;simp only[hm] at he ⊢;exact main none [] [] _ rfl (λM e=>by cases e) tu oI he
  |some M=>
   rw[hm] at tu oI;simp only[hm] at he ⊢;exact main (some M) _ _ _ rfl (λM' e=>by cases e;exact⟨rfl,rfl⟩) tu oI he
 |block id c1=>
  have wI:=IH c1 (by simp at hc;omega);intro rm S r h rd w0 σ0 wr O x a w gA hC hY gD hn hg he;simp only[comp] at h;cases cJ:Nat.beq id cN<;>simp only[cJ,zyy,zyx] at h
  case true=>cases h;exact absurd he (nA _ _ _ _)
  have L3:id≠cN:=λe=>by subst e;simp at cJ
  simp only[aB] at h;obtain⟨q,hq,rfl⟩:=h;obtain⟨xi,dF⟩:=ab6 he;exact wpIn_block (wpIn_mono (wI rm S _ hq rd w0 σ0 wr O xi a w gA hC hY gD hn hg dF) λe a' w' ic=>ab8 L3 (vP c1 hq) dF he ic)
 |loop c1=>
  have wI:=IH c1 (by simp at hc;omega);intro rm S r h rd w0 σ0 wr O x a w gA hC hY gD hn hg he;rw[acz] at h;split at h
  .rename_i qb Gq;obtain⟨p,code,ws⟩:=qb;unfold zN at Gq;split at Gq
   case h_2=>cases Gq
   rename_i cx cy ck cz cc;simp only[aB] at Gq;obtain⟨p',aW,ep⟩:=Gq;cases ep;exact axf aW (IH _ (by simp at hc;omega)) h gA hC hY gD hn hg he
  split at h
  case h_2=>cases h;exact absurd he (nA _ _ _ _)
  rename_i q hq;cases h;obtain⟨hs,CI,cg⟩:=GK (C:=C) (w0:=w0) (σ0:=σ0) (ids:=ids) 8 hq;have th:=vP c1 hs;simp only[PC.ev] at he
  have zb:Good C w0 σ0 (q.1.st ids) (O.put (kZ q.1 q.2.mr) ((kZ q.1 q.2.mr).map O.r) (jS ids q.1 q.2.mo) ((jS ids q.1 q.2.mo).map O.o)) (λ_=>False) a w:=by
   exact Good.joined (cg hg) (.refl O q.2.pc.modR q.2.pc.modO) th.1 th.2
  have key:∀(k:Nat) (ρ1:Env) (a':Act) (w:World),SameBut wr a a'->fY (q.2.pc.ev Z N) O (kZ q.1 q.2.mr) (jS ids q.1 q.2.mo) k ((kZ q.1 q.2.mr).map ρ1.r) ((jS ids q.1 q.2.mo).map ρ1.o)=some x->
        Good C w0 σ0 (q.1.st ids) (O.join (kZ q.1 q.2.mr) (jS ids q.1 q.2.mo) ρ1) (λ_=>False) a' w->Code.roundsIn (FR rd) 0 C.P c1 (iz C w0 σ0 ids fn s rm wr a none q.2.ex x) k a' w:=by
   intro k
   induction k with
   |zero=>intro ρ1 a' w hn hl hg;simp[fY] at hl
   |succ k ih=>
    intro ρ1 a' w kT hl hg;rw[roundsIn_succ];simp only[fY] at hl;change (match q.2.pc.ev Z N (O.join (kZ q.1 q.2.mr) (jS ids q.1 q.2.mo) ρ1) with|some (.next O')=>_|y=>y)=some x at hl;cases dF:q.2.pc.ev Z N (O.join (kZ q.1 q.2.mr) (jS ids q.1 q.2.mo) ρ1) with
    |none=>rw[dF] at hl;simp at hl
    |some xi=>
     rw[dF] at hl;refine wpIn_mono (wI rm _ _ hs rd w0 σ0 wr _ xi a' w gA hC hY gD (kT.size.trans hn) hg dF) λe a2 w' ic=>?_;have other:e≠.normal->xi=x->iz C w0 σ0 ids fn s rm wr a none q.2.ex x e a2 w':=by
         intro ay kV;subst kV;exact ic.mono (λy hy=>hy) kT (λe=>absurd e ay)
     cases e with
     |normal=>
      obtain⟨ρ2,S2,e1,e2,eH,jw⟩:=ic;subst e1;simp only at hl;refine ih ρ2 a2 w' (kT.trans eH) hl ?_
      have uO:Good C w0 σ0 (q.1.st ids) ρ2 (λ_=>False) a2 w':=by
       have:=jw.meet2 (x:=q.1)
       rwa [CI S2 e2] at this
      refine uO.joined (mr':=kZ q.1 q.2.mr++q.2.pc.modR) (mo':=jS ids q.1 q.2.mo++q.2.pc.modO) ?_ (λt ht=>?_) (λj hj=>?_)
      .exact((Env.but.join O ρ1 _ _).mono (λt ht=>jr _ ht) (λt ht=>jr _ ht)).trans
        ((PC.ev_but q.2.pc _ _ ρ2 dF rfl).mono (λt ht=>jG _ ht) (λt ht=>jG _ ht))
      .exact(dZ.1 ht).elim MO (th.1 t)
      .exact(dZ.1 hj).elim Dc (th.2 j)
     |exit id=>
      refine other (by simp) ?_;obtain⟨ρ1,S2,e1,_⟩:=ic;subst e1;simpa using hl
     |ret=>
      refine other (by simp) ?_;cases rm with
      |false=>obtain⟨d,e1,_⟩:=ic;subst e1;simpa using hl
      |true=>obtain⟨ρ1,S2,e1,_⟩:=ic;subst e1;simpa using hl
     |_=>exact ic.elim
  exact wpIn_loop_rounds N (key N O a w (.refl _ _) he zb)
 |exit id=>
  intro rm S r h rd w0 σ0 wr O x a w gA hC hY gD hn hg he;simp only[comp] at h;cases cJ:Nat.beq id cN<;>simp only[cJ,zyy,zyx] at h
  case true=>cases h;exact absurd he (nA _ _ _ _)
  cases h;simp only[PC.ev,bj] at he;subst he;exact wpIn_exit ⟨O,S,rfl,λe=>by subst e;simp at cJ,by simp,.refl _ _,hg⟩
 |ret=>
  intro rm S r h rd w0 σ0 wr O x a w gA hC hY gD hn hg he;simp only[comp] at h;cases rm<;>simp only[zyy,zyx] at h
  case true=>
   cases h;simp only[PC.ev,bj] at he;subst he;exact wpIn_ret ⟨O,S,rfl,by simp,.refl _ _,hg⟩
  split at h
  .rename_i e Ta;cases h;simp only[PC.ev,bj] at he;subst he;obtain⟨V,own,hv,hi⟩:=hg;exact wpIn_ret ⟨_,rfl,Inv.retD hC (λ_=>rfl) (gA rfl).2 Ta _ hi rfl,.refl _ _⟩
  .cases h;exact absurd he (nA _ _ _ _)
 |rangeFunc g ps ca cb=>exact azl ef (IH ca (by simp at hc;omega)) (IH cb (by simp at hc;omega))
 |_=>intro rm S r h rd w0 σ0 wr O x a w gA hC hY gD hn hg he;simp only[comp,bj] at h;subst h;exact absurd he (nA _ _ _ _)
def anw {N:Nat}(ef:gR C Z)(hR:PS C n ids Z R)(c:Code):yc C Z fn s n ids R N c:=anx ef hR _ c (Nat.lt_succ_self _)
end
end Cx
