/-
  Code: sequences, choices, blocks, loops.
-/
import Derived.LoopNIn
import Derived.Test.YtopjnikcppafdaaGreatDoorMAE
import Derived.LoopN
set_option linter.defProp false
set_option linter.unusedSimpArgs false
set_option linter.unusedVariables false
namespace Cx
open Go Go.RowKit
def aR (m t:Nat):Bool:= !Nat.beq (Nat.land 1 (Nat.shiftRight m t)) 0
def yd (m t:Nat):aR m t=m.testBit t:=by
 unfold aR Nat.testBit;show(!Nat.beq (1&&& (m>>>t)) 0)=((1&&& (m>>>t))!=0)
 generalize 1&&& (m>>>t)=x;cases x<;>rfl
def iv (t:Nat):Nat:=Nat.shiftLeft 1 t
def sQ (t:Nat):aR (iv t) t=true:=by
 rw[yd];show(1<<<t).testBit t=true;simp[Nat.testBit_shiftLeft]
def gR (m k t:Nat):aR (Nat.lor m k) t=(aR m t||aR k t):=by
 simp only[yd];exact Nat.testBit_or m k t
def PI.mask:PI->Nat
 |.setR t _=>iv t|.call _ t _ _=>iv t|.callc _ t _ _=>iv t|_=>0
def MA:List PI->Nat
 |[]=>0
 |p::l=>Nat.lor p.mask (MA l)
def PI.objs:PI->List Nat
 |.setO j _=>[j]|.mcall j _ _=>[j]|_=>[]
def fK (l:List Nat)(x:Nat):Bool:=l.any (Nat.beq x)
def kc (a b:List Nat):List Nat:=a.foldl (λacc x=>bif fK acc x then acc else x::acc) b
def afL (l:List PI):List Nat:=l.foldl (λacc p=>kc p.objs acc) []
def rW (l:List Nat)(x:Nat):fK l x=true↔x∈l:=by
 unfold fK;rw[xL];constructor
 .rintro⟨y,hy,h⟩;rw[ay h];exact hy
 .intro h;exact⟨x,h,ki x⟩
def rX {x:Nat}:∀{a b:List Nat},x∈kc a b↔x∈a\/x∈b
 |[],b=>by simp[kc]
 |y::a,b=>by
  have ih:=@rX x a (bif fK b y then b else y::b);have e:kc (y::a) b=kc a (bif fK b y then b else y::b):=rfl;rw[e,ih];cases hb:fK b y
  .simp[or_assoc,or_left_comm]
  .have:=(rW b y).1 hb;simp only[zyy,cB];constructor
   .rintro(h|h)
    .exact .inl (.inr h)
    .exact .inr h
   .rintro((h|h)|h)
    .subst h;exact .inr this
    .exact .inl h
    .exact .inr h
def aur {x:Nat}(l:List PI)(h:x∈l.flatMap PI.modO):x∈afL l:=by
 have key:∀(l:List PI) (acc:List Nat),(x∈l.flatMap PI.modO\/x∈acc)->x∈l.foldl (λacc p=>kc p.objs acc) acc:=by
  intro l
  induction l with
  |nil=>intro acc h;simpa using h
  |cons p l ih=>
   intro acc h;refine ih _ ?_;rw[vy,dC] at h;rcases h with(h|h)|h
   .refine .inr (rX.2 (.inl ?_));cases p<;>simp_all [PI.modO,PI.objs]
   .exact .inl h
   .exact .inr (rX.2 (.inr h))
 exact key l [] (.inl h)
def afg {t:Nat}:∀(l:List PI),t∈l.flatMap PI.modR->aR (MA l) t=true
 |[],h=>by simp at h
 |p::l,h=>by
  rw[vy,dC] at h;simp only[MA,gR,kL];rcases h with h|h
  .left;cases p<;>simp[PI.modR] at h<;>subst h<;>exact sQ _
  .exact .inr (afg l h)
structure Res2 where
 pc:PC
 out:Option Snap
 ex:List (Nat×Snap)
 mr:Nat
 mo:List Nat
 deriving Inhabited
def np:Option Snap->Option Snap->Option Snap
 |none,x=>x
 |x,none=>x
 |some a,some b=>some (a.meet b)
def qm (id:Nat):List (Nat×Snap)->Option Snap->Option Snap
 |[],acc=>acc
 |x::l,acc=>qm id l (bif Nat.beq x.1 id then np acc (some x.2) else acc)
def iter (step:Snap->Option Res2):Nat->Snap->Option (Snap×Res2)
 |0,_=>none
 |k+1,S=>(step S).bind λr=>
  match r.out with
  |none=>some (S,r)
  |some T=>bif (S.meet T).beq S then some (S,r) else iter step k (S.meet T)
def kY (S:Snap)(m:Nat):List Nat:=(List.range S.rs.length).filter λt=>aR m t&& !isNone (cJ (S.rs.getD t .none))
def jY (ids:List Nat)(S:Snap)(l:List Nat):List Nat:=l.filter λj=> !qh (dy ids S.os j)
def ic:Res2:=⟨.is [ID],none,[],0,[]⟩
def nF (Z:aS)(N:Nat)(O:Env)(x:Out):ic.pc.ev Z N O≠some x:=by
 intro h;simp[ic,PC.ev,PI.runs,PI.run,ID,PE.ev,D.b_bool] at h
def nG:(∀t,t∈ic.pc.modR->aR ic.mr t=true)/\∀j,j∈ic.pc.modO->j∈ic.mo:=by
 constructor<;>intro t h<;>simp[ic,PC.modR,PC.modO,PI.modR,PI.modO,ID] at h
def cD:Code->List Nat
 |.region _ ops _=>ops.toList.filterMap (·.dst)
 |.seq a b=>cD a++cD b
 |.cond _ a b=>cD a++cD b
 |.block _ a=>cD a
 |.loop a=>cD a
 |_=>[]
def zk (l:List Nat):Nat:=l.foldr (λt m=>Nat.lor (iv t) m) 0
def u9 (m:Nat):Nat->List Sh->List Sh
 |_,[]=>[]
 |t,s::l=>(bif aR m t then .none else s)::u9 m (t+1) l
def Snap.mask (m:Nat)(S:Snap):Snap:=⟨u9 m 0 S.rs,S.os⟩
def uT:Sh->Sh
 |.yv=>.none
 |s=>s
def tY:List Nat->List Ty->List Sh->List Sh
 |p::ps,y::ys,l=>tY ps ys (l.set p (.dat y))
 |_,_,l=>l
def Snap.start (ps:List Nat)(ys:List Ty)(S:Snap):Snap:=⟨tY ps ys (S.rs.map uT),S.os⟩
def ae9 (ids:List Nat)(l:List Snap)(mo:List Nat):List Nat:=mo.filter λj=>l.any λS=> !qh (dy ids S.os j)
def awS (wm:Nat)(ra rb:Res2):Res2:=
 let m:=Nat.lor wm (Nat.lor ra.mr rb.mr)
 ⟨.seq ra.pc rb.pc,rb.out.map (Snap.mask m),rb.ex.map (λx=>(x.1,x.2.mask m)),m,kc ra.mo rb.mo⟩
def gS (ids:List Nat)(id:Nat)(r:Res2):Res2:=
    match qm id r.ex r.out with
    |some M=>⟨.block id (kY M r.mr) (jY ids M r.mo) r.pc,some M,r.ex.filter λx=> !Nat.beq x.1 id,r.mr,r.mo⟩
    |none=>⟨.block id [] [] r.pc,none,r.ex.filter λx=> !Nat.beq x.1 id,r.mr,r.mo⟩
def wM:List (Nat×Nat)->Nat->Option Nat
 |[],_=>none
 |x::l,t=>bif Nat.beq x.1 t then some x.2 else wM l t
def lR (pr:Nat):List Oper->List (Nat×Nat)->Option (List (Nat×Nat))
 |[],acc=>some acc
 |o::l,acc=>
  match o.dst,o.guard with
  |some d,none=>
   bif Nat.beq d pr||(wM acc d).isSome then none else
   match o.op with
   |.extract (.tmp t) i=>bif Nat.beq t pr&&Nat.ble i 1 then lR pr l (acc++[(d,i)]) else none
   |.assign (.tmp t)=>(wM acc t).bind λi=>lR pr l (acc++[(d,i)])
   |.move (.tmp t)=>(wM acc t).bind λi=>lR pr l (acc++[(d,i)])
   |_=>none
  |_,_=>none
structure MP where
 it:Nat
 nx:Nat
 mo:Nat
 out:Nat
 next:Nat
 pr:Nat
 ops1:Array Oper
 ops2:Array Oper
 aa:List (Nat×Nat)
 deriving Inhabited
def CE (x y:Code)(k:Nat)(z:Code):Option MP:=
 match x,y,z with
 |.region _ ops1 false,.cond (.tmp mo) .skip (.exit out),.region _ ops2 false=>
  match ops1.toList,ops2.toList with
  |[o1,o2],o3::l=>
   match o1.dst,o1.guard,o1.op,o2.dst,o2.guard,o2.op,o3.dst,o3.guard,o3.op with
   |some nx,none,.next (.tmp it) false,some mo',none,.extract (.tmp nx') 0,some pr,none,.entry (.tmp it')=>
    bif Nat.beq mo mo'&&Nat.beq nx nx'&&Nat.beq it it'&& !Nat.beq it nx&& !Nat.beq it mo&& !Nat.beq it pr&& !Nat.beq nx mo&& !Nat.beq out cP&& !Nat.beq k cP then
     (lR pr l []).map λaa=>⟨it,nx,mo,out,k,pr,ops1,ops2,aa⟩
    else none
   |_,_,_,_,_,_,_,_,_=>none
  |_,_=>none
 |_,_,_=>none
def zd:List Nat->Nat->List Ob->List Ob
 |i::is,J,o::os=>(bif Nat.beq i J then .dead else o)::zd is J os
 |_,_,os=>os
def Snap.kill (ids:List Nat)(J:Nat)(S:Snap):Snap:=⟨S.rs,zd ids J S.os⟩
def aev (J:Nat)(kt et:Ty)(ids:List Nat)(p:MP)(m:Nat)(S:Snap):Bool:=
 Sh.beq (S.rs.getD p.it .none) (.obj J 0)&&Ob.beq (dy ids S.os J) (.it kt et)&& !aR m p.it
def CF (ids:List Nat)(n:Nat)(p:MP)(ws:List Nat)(f:Snap->Option Res2)(S:Snap):Option Res2:=
 match cJ (S.rs.getD p.it .none) with
 |.obj J 0=>
  match dy ids S.os J with
  |.it kt et=>
   let ps:=p.aa.map (·.1)
   let ys:=p.aa.map λx=>bif Nat.beq x.2 0 then kt else et
   let m:=zk ws
   match iter (λS=>(f ((S.mask m).start ps ys)).map (gS ids p.next)) 8 S with
   |some r=>
    bif r.2.ex.isEmpty&& !fK r.2.mo J&&aev J kt et ids p m r.1&&hZ ps&&ps.all (λt=>Nat.blt t n)&&Nat.blt p.nx n&&Nat.blt p.mo n&&Nat.blt p.pr n&&Nat.beq (Nat.lor m r.2.mr) m then
       some ⟨.seq (.meach J ps (p.aa.map (·.2)) (jY ids r.1 r.2.mo) r.2.pc) (.exit p.out),none,[(p.out,(r.1.mask m).kill ids J)],0,r.2.mo⟩
    else some ic
   |none=>some ic
  |_=>some ic
 |_=>some ic
def comp (C:Ctx)(fn:Func)(s:Sig)(n:Nat)(ids:List Nat)(R:Array Oper->Bool->Snap->Option (Snap×List PI)):Bool->Code->Snap->Option Res2
 |_,.skip,S=>some ⟨.skip,some S,[],0,[]⟩
 |_,.region _ ops draw,S=>(R ops draw S).map λr=>⟨.is r.2,some r.1,[],MA r.2,afL r.2⟩
 |rm,.seq a b,S=>(comp C fn s n ids R rm a S).bind λr=>
  match r.out with
  |none=>some r
  |some S1=>(comp C fn s n ids R rm b S1).map λq=>⟨.seq r.pc q.pc,q.out,r.ex++q.ex,Nat.lor r.mr q.mr,kc r.mo q.mo⟩
 |rm,.cond c a b,S=>
  match use C (S.st ids) [] c with
  |some (.bool,e)=>
   (comp C fn s n ids R rm a S).bind λr=>(comp C fn s n ids R rm b S).map λq=>
     match np r.out q.out with
     |some M=>⟨.ite e (kY M (Nat.lor r.mr q.mr)) (jY ids M (kc r.mo q.mo)) r.pc q.pc,some M,r.ex++q.ex,Nat.lor r.mr q.mr,kc r.mo q.mo⟩
     |none=>⟨.ite e [] [] r.pc q.pc,none,r.ex++q.ex,Nat.lor r.mr q.mr,kc r.mo q.mo⟩
  |_=>some ic
 |rm,.block id a,S=>bif Nat.beq id cP then some ic else(comp C fn s n ids R rm a S).map (gS ids id)
 |rm,.loop (.seq x (.seq y (.block k (.seq z code)))),S=>
  (match CE x y k z with
  |some p=>CF ids n p (cD x++(cD y++(cD z++cD code))) (λS=>comp C fn s n ids R rm code S) S
  |none=>
  match iter (λS=>comp C fn s n ids R rm (.seq x (.seq y (.block k (.seq z code)))) S) 8 S with
  |some r=>some ⟨.loop (kY r.1 r.2.mr) (jY ids r.1 r.2.mo) r.2.pc,none,r.2.ex,r.2.mr,r.2.mo⟩
  |none=>some ic)
 |rm,.loop a,S=>
  match iter (λS=>comp C fn s n ids R rm a S) 8 S with
  |some r=>some ⟨.loop (kY r.1 r.2.mr) (jY ids r.1 r.2.mo) r.2.pc,none,r.2.ex,r.2.mr,r.2.mo⟩
  |none=>some ic
 |_,.exit id,S=>bif Nat.beq id cP then some ic else some ⟨.exit id,none,[(id,S)],0,[]⟩
 |rm,.ret,S=>
  bif rm then some ⟨.exit cP,none,[(cP,S)],0,[]⟩ else
  match zT C fn s (S.st ids) with
  |some e=>some ⟨.ret e,none,[],0,[]⟩
  |none=>some ic
 |rm,.rangeFunc g ps a b,S=>
  match rm,C.yl,use C (S.st ids) [] g with
  |false,none,some (.fn aa r,e)=>
   match oS aa r with
   |some ys=>
    match iter (λS=>(comp C fn s n ids R true a (S.start ps.toList ys)).bind λra=>
          match ra.out,ra.ex with
          |some S1,[]=>(comp C fn s n ids R true b S1).map (awS (zk (ps.toList++cD a++cD b)) ra)
          |_,_=>none) 8 S with
    |some r=>
     bif Nat.beq ys.length ps.size&&hZ ps.toList&&ps.toList.all (λp=>Nat.blt p n)&&Nat.ble r.1.rs.length n then
           some ⟨.seq (.is [.callc [] n e []]) (.each (.r n) ps.toList (ae9 ids (r.1::r.2.ex.map (·.2)) r.2.mo) ((qm cP r.2.ex none).bind λM=>zT C fn s (M.st ids)) r.2.pc),
            some r.1,r.2.ex.filter (λx=> !Nat.beq x.1 cP),iv n,r.2.mo⟩
     else some ic
    |none=>some ic
   |none=>some ic
  |_,_,_=>some ic
 |_,_,_=>some ic
termination_by structural _ c=>c
def zi:Code->Option (MP×Code×List Nat)
 |.seq x (.seq y (.block k (.seq z code)))=>(CE x y k z).map λp=>(p,code,cD x++(cD y++(cD z++cD code)))
 |_=>none
def abC (C:Ctx)(fn:Func)(s:Sig)(n:Nat)(ids:List Nat)(R:Array Oper->Bool->Snap->Option (Snap×List PI))(rm:Bool)(a:Code)(S:Snap):comp C fn s n ids R rm (.loop a) S=
 match zi a with
 |some q=>CF ids n q.1 q.2.2 (λS=>comp C fn s n ids R rm q.2.1 S) S
 |none=>
  match iter (λS=>comp C fn s n ids R rm a S) 8 S with
  |some r=>some ⟨.loop (kY r.1 r.2.mr) (jY ids r.1 r.2.mo) r.2.pc,none,r.2.ex,r.2.mr,r.2.mo⟩
  |none=>some ic:=by
 by_cases h:∃x y k z code,a=.seq x (.seq y (.block k (.seq z code)))
 .obtain⟨x,y,k,z,code,rfl⟩:=h
  conv=>lhs;unfold comp
  simp only[zi];cases CE x y k z<;>rfl
 .have e:zi a=none:=by
   unfold zi;split
   .rename_i x y k z code;exact absurd ⟨x,y,k,z,code,rfl⟩ h
   .rfl
  rw[e];rw[comp];intro x y k z code e;exact h ⟨x,y,k,z,code,e⟩
def subs:Code->List Code
 |.seq a b=>.seq a b::(subs a++subs b)
 |.cond c a b=>.cond c a b::(subs a++subs b)
 |.block i a=>.block i a::subs a
 |.loop a=>.loop a::subs a
 |.rangeFunc g ps a b=>.rangeFunc g ps a b::(subs a++subs b)
 |c=>[c]
def axy (c:Code):c∈subs c:=by cases c<;>simp[subs]
def aGH {a code:Code}{p:MP}{ws:List Nat}(h:zi a=some (p,code,ws)):code∈subs a:=by
 unfold zi at h;split at h
 .simp only[aB] at h;obtain⟨q,_,e⟩:=h;cases e;simp[subs,axy]
 .cases h
def Pz (C:Ctx)(n:Nat)(ids:List Nat)(Z:aS)(R:Array Oper->Bool->Snap->Option (Snap×List PI)):Prop:=
 ∀(id:Nat) (ops:Array Oper) (draw:Bool) (S:Snap) (r:Snap×List PI),R ops draw S=some r->
  ∀(rd:Option Nat) (w0:World) (σ0:Base) (O O':Env) (a:Act) (w:World) (Q:Exit->Act->World->Prop),CtxOK C σ0->uv C Z w0 σ0->a.tmps.size=n->Good C w0 σ0 (S.st ids) O (λ_=>False) a w->PI.runs Z r.2 O=some O'->
   (∀a' w',SameBut (BF ops) a a'->Good C w0 σ0 (r.1.st ids) O' (λ_=>False) a' w'->Q .normal a' w')->(Code.region id ops draw).wpIn (FR rd) 0 C.P Q a w
section
variable {C:Ctx} {O O':Env} {V:Im} {own:Nat->Option Nat} {hv:Nat->Value} {w0:World} {σ0:Base} {A:Nat->Prop} {a:Act} {w:World} {Z:aS} {n:Nat} {ids:List Nat} {fn:Func} {s:Sig}
 {R:Array Oper->Bool->Snap->Option (Snap×List PI)}
def iu (C:Ctx)(w0:World)(σ0:Base)(ids:List Nat)(fn:Func)(s:Sig)(rm:Bool)(wr:Nat->Prop)(a0:Act)(out:Option Snap)(ex:List (Nat×Snap))(x:Out):Exit->Act->World->Prop
 |.normal,a,w=>∃O S,x=.next O/\out=some S/\SameBut wr a0 a/\Good C w0 σ0 (S.st ids) O (λ_=>False) a w
 |.exit id,a,w=>∃O S,x=.exit id O/\id≠cP/\(id,S)∈ex/\SameBut wr a0 a/\Good C w0 σ0 (S.st ids) O (λ_=>False) a w
 |.ret,a,w=>match rm with
  |false=>∃d,x=.ret d/\sM C w0 σ0 fn s d a.tmps a.defers w/\SameBut wr a0 a
  |true=>∃O S,x=.exit cP O/\(cP,S)∈ex/\SameBut wr a0 a/\Good C w0 σ0 (S.st ids) O (λ_=>False) a w
 |_,_,_=>False
def Good.meet1 {x y:Snap}(h:Good C w0 σ0 (x.st ids) O A a w):Good C w0 σ0 ((x.meet y).st ids) O (λ_=>False) a w:=by
 obtain⟨V,own,hv,h⟩:=h;exact⟨V,own,hv,Snap.meet_ok1 h⟩
def Good.meet2 {x y:Snap}(h:Good C w0 σ0 (y.st ids) O A a w):Good C w0 σ0 ((x.meet y).st ids) O (λ_=>False) a w:=by
 obtain⟨V,own,hv,h⟩:=h;exact⟨V,own,hv,Snap.meet_ok2 h⟩
def afn {x:Snap}{y:Option Snap}{M:Snap}(h:Good C w0 σ0 (x.st ids) O (λ_=>False) a w)(hm:np (some x) y=some M):Good C w0 σ0 (M.st ids) O (λ_=>False) a w:=by
 cases y<;>simp[np] at hm<;>subst hm
 .exact h
 .exact h.meet1
def afo {x:Option Snap}{y:Snap}{M:Snap}(h:Good C w0 σ0 (y.st ids) O (λ_=>False) a w)(hm:np x (some y)=some M):Good C w0 σ0 (M.st ids) O (λ_=>False) a w:=by
 cases x<;>simp[np] at hm<;>subst hm
 .exact h
 .exact h.meet2
def afp {x:Snap}{y:Option Snap}:∃M,np (some x) y=some M:=by cases y<;>simp[np]
def afq {x:Option Snap}{y:Snap}:∃M,np x (some y)=some M:=by cases x<;>simp[np]
def MB {id:Nat}:∀(l:List (Nat×Snap)) {x:Snap},Good C w0 σ0 (x.st ids) O (λ_=>False) a w->∃M,qm id l (some x)=some M/\Good C w0 σ0 (M.st ids) O (λ_=>False) a w
 |[],x,h=>⟨x,rfl,h⟩
 |y::l,x,h=>by
  simp only[qm];cases Nat.beq y.1 id
  .exact MB l h
  .obtain⟨M,hM⟩:=@afp x (some y.2);simp only[zyy,hM];exact MB l (afn h hM)
def TQ {id:Nat}{S:Snap}(h:Good C w0 σ0 (S.st ids) O (λ_=>False) a w):∀(l:List (Nat×Snap)) (x:Option Snap),(id,S)∈l->∃M,qm id l x=some M/\Good C w0 σ0 (M.st ids) O (λ_=>False) a w
 |y::l,x,hm=>by
  simp only[qm];rcases cB.1 hm with e|hm
  .subst e;simp only[ki,zyy];obtain⟨M,hM⟩:=@afq x S;rw[hM];exact MB l (afo h hM)
  .exact TQ h l _ hm
def Gw {step:Snap->Option Res2}:∀(k:Nat) {S:Snap} {r:Snap×Res2},iter step k S=some r->
 step r.1=some r.2/\(∀T,r.2.out=some T->r.1.meet T=r.1)/\∀{O:Env} {a:Act} {w:World},Good C w0 σ0 (S.st ids) O (λ_=>False) a w->Good C w0 σ0 (r.1.st ids) O (λ_=>False) a w
 |0,S,r,h=>by simp[iter] at h
 |k+1,S,r,h=>by
  simp only[iter,az] at h;obtain⟨q,hq,h⟩:=h;split at h
  .rename_i ho;cases h;exact⟨hq,λT hT=>by simp[ho] at hT,λg=>g⟩
  .rename_i T ho;cases hb:(S.meet T).beq S<;>simp only[hb,zyy,zyx] at h
   .obtain⟨h1,h2,h3⟩:=Gw k h;exact⟨h1,h2,λg=>h3 g.meet1⟩
   .cases h;refine⟨hq,λT' hT=>?_,λg=>g⟩;simp only[ho,aZ] at hT;subst hT;exact Snap.beq_eq _ _ hb
def aeB {step:Snap->Option Res2}{hv:Nat->Value}:∀(k:Nat) {S:Snap} {r:Snap×Res2},iter step k S=some r->Inv C (S.st ids) O V own hv w0 σ0 (λ_=>False) a w->Inv C (r.1.st ids) O V own hv w0 σ0 (λ_=>False) a w
 |0,S,r,h,_=>by simp[iter] at h
 |k+1,S,r,h,i=>by
  simp only[iter,az] at h;obtain⟨q,hq,h⟩:=h;split at h
  .cases h;exact i
  .rename_i T ho;cases hb:(S.meet T).beq S<;>simp only[hb,zyy,zyx] at h
   .exact aeB k h (Snap.meet_ok1 i)
   .cases h;exact i
def Good.joined {M:Snap}{m:Nat}{mo mr' mo':List Nat}(h:Good C w0 σ0 (M.st ids) O' (λ_=>False) a w)(hb:O.but O' mr' mo')(h1:∀t,t∈mr'->aR m t=true)(h2:∀j,j∈mo'->j∈mo):
 Good C w0 σ0 (M.st ids) (O.join (kY M m) (jY ids M mo) O') (λ_=>False) a w:=by
 obtain⟨V,own,hv,h⟩:=h;refine⟨V,own,hv,h.env (Snap.noOpt _ _) (λt ht=>?_) (λj hj=>?_)⟩
 .simp only[Env.join,Env.put,ve];split
  .rfl
  .rename_i hm;refine(hb.r t λFU=>hm ?_).symm;have af:t<M.rs.length:=by
        refine aaH λhle=>?_;simp only[Snap.st,aE,kg hle,Option.getD_none,cJ,isNone] at ht;cases ht
   exact eR.2 ⟨fu.2 af,by rw[h1 t FU];simpa [Snap.st] using ht⟩
 .simp only[Env.join,Env.put,ve];split
  .rfl
  .rename_i hm;refine(hb.o j λFU=>hm ?_).symm;exact eR.2 ⟨h2 j FU,by simpa [Snap.st] using hj⟩
def MC {S:Snap}{m t:Nat}(h:t∈kY S m):aR m t=true:=by
 have:=(eR.1 h).2;simp only[ao] at this;exact this.1
def CG {S:Snap}{l:List Nat}{j:Nat}(h:j∈jY ids S l):j∈l:=(eR.1 h).1
def abc {id:Nat}{q:Res2}(h:(∀t,t∈q.pc.modR->aR q.mr t=true)/\∀j,j∈q.pc.modO->j∈q.mo):(∀t,t∈(gS ids id q).pc.modR->aR (gS ids id q).mr t=true)/\∀j,j∈(gS ids id q).pc.modO->j∈(gS ids id q).mo:=by
 unfold gS;cases hm:qm id q.ex q.out<;>simp only
 .simpa [PC.modR,PC.modO] using h
 .refine⟨λt ht=>?_,λj hj=>?_⟩
  .simp only[PC.modR,dC] at ht;exact ht.elim MC (h.1 t)
  .simp only[PC.modO,dC] at hj;exact hj.elim CG (h.2 j)
def auj {p:MP}{ws:List Nat}{f:Snap->Option Res2}{S:Snap}{r:Res2}(h:CF ids n p ws f S=some r):(∀t,t∈r.pc.modR->aR r.mr t=true)/\∀j,j∈r.pc.modO->j∈r.mo:=by
 unfold CF at h;split at h
 case h_2=>cases h;exact nG
 split at h
 case h_2=>cases h;exact nG
 simp only at h;split at h
 case h_2=>cases h;exact nG
 rw[qN] at h;split at h
 .cases h;refine⟨λt ht=>by simp[PC.modR] at ht,λj hj=>?_⟩;simp only[PC.modO,um] at hj;exact CG hj
 .cases h;exact nG
def vK:∀(c:Code) {rm:Bool} {S:Snap} {r:Res2},comp C fn s n ids R rm c S=some r->(∀t,t∈r.pc.modR->aR r.mr t=true)/\∀j,j∈r.pc.modO->j∈r.mo:=by
 intro c
 induction c with
 |skip=>intro rm S r h;simp only[comp,aZ] at h;subst h;simp[PC.modR,PC.modO]
 |region id ops draw=>
  intro rm S r h;simp only[comp,aB] at h;obtain⟨q,_,rfl⟩:=h;exact⟨λt ht=>afg _ ht,λj hj=>aur _ hj⟩
 |seq x y jW za=>
  intro rm S r h;simp only[comp,az] at h;obtain⟨q,hq,h⟩:=h;split at h
  .cases h;exact jW hq
  .simp only[aB] at h;obtain⟨p,hp,rfl⟩:=h;refine⟨λt ht=>?_,λj hj=>?_⟩
   .simp only[PC.modR,dC] at ht;rw[gR,kL];exact ht.imp ((jW hq).1 t) ((za hp).1 t)
   .simp only[PC.modO,dC] at hj;rw[rX];exact hj.imp ((jW hq).2 j) ((za hp).2 j)
 |cond c x y jW za=>
  intro rm S r h;simp only[comp] at h;split at h
  case h_2=>cases h;exact nG
  rename_i e _;simp only[az,aB] at h;obtain⟨q,hq,p,hp,rfl⟩:=h;cases hm:np q.out p.out<;>simp only[hm]
  .refine⟨λt ht=>?_,λj hj=>?_⟩
   .simp only[PC.modR,dC,xR] at ht;rw[gR,kL];exact ht.imp ((jW hq).1 t) ((za hp).1 t)
   .simp only[PC.modO,dC,xR] at hj;rw[rX];exact hj.imp ((jW hq).2 j) ((za hp).2 j)
  .refine⟨λt ht=>?_,λj hj=>?_⟩
   .simp only[PC.modR,dC] at ht;rw[gR,kL];rcases ht with(ht|ht)|ht
    .have:=MC ht;rw[gR,kL] at this;exact this
    .exact .inl ((jW hq).1 t ht)
    .exact .inr ((za hp).1 t ht)
   .simp only[PC.modO,dC] at hj;rcases hj with(hj|hj)|hj
    .exact CG hj
    .exact rX.2 (.inl ((jW hq).2 j hj))
    .exact rX.2 (.inr ((za hp).2 j hj))
 |block id x jW=>
  intro rm S r h;simp only[comp] at h;cases cL:Nat.beq id cP<;>simp only[cL,zyy,zyx] at h
  case true=>cases h;exact nG
  simp only[aB] at h;obtain⟨q,hq,rfl⟩:=h;exact abc (jW hq)
 |loop x jW=>
  intro rm S r h;rw[abC] at h;split at h
  .exact auj h
  split at h
  case h_2=>cases h;exact nG
  rename_i q hq;cases h;have hs:=(Gw (C:=C) (w0:=default) (σ0:=Base.mk0 ⟨λ_ _=>none,λ_=>none⟩ 0) (ids:=ids) 8 hq).1;refine⟨λt ht=>?_,λj hj=>?_⟩
  .simp only[PC.modR,dC] at ht;exact ht.elim MC ((jW hs).1 t)
  .simp only[PC.modO,dC] at hj;exact hj.elim CG ((jW hs).2 j)
 |exit id=>
  intro rm S r h;simp only[comp] at h;cases cL:Nat.beq id cP<;>simp only[cL,zyy,zyx] at h<;>cases h
  .simp[PC.modR,PC.modO]
  .exact nG
 |ret=>
  intro rm S r h;simp only[comp] at h;cases rm<;>simp only[zyy,zyx] at h
  case true=>cases h;simp[PC.modR,PC.modO]
  split at h
  .cases h;simp[PC.modR,PC.modO]
  .cases h;exact nG
 |rangeFunc g ps x y _ _=>
  intro rm S r h;simp only[comp] at h;split at h
  case h_2=>cases h;exact nG
  split at h
  case h_2=>cases h;exact nG
  split at h
  case h_2=>cases h;exact nG
  rename_i q hq;rw[qN] at h;split at h
  .cases h;refine⟨λt ht=>?_,λj hj=>?_⟩
   .simp[PC.modR,PI.modR] at ht;subst ht;exact sQ _
   .simp only[PC.modO,PI.modO,vy,List.flatMap_nil,um,xR] at hj;exact(eR.1 hj).1
  .cases h;exact nG
 |_=>intro rm S r h;simp only[comp,aZ] at h;subst h;exact nG
def iu.mono {rm:Bool}{wr:Nat->Prop}{a0 a1:Act}{out ahr:Option Snap}{ex ex':List (Nat×Snap)}{x:Out}{e:Exit}(h:iu C w0 σ0 ids fn s rm wr a0 out ex x e a w)(he:∀y,y∈ex->y∈ex')(hs:SameBut wr a1 a0)
 (ho:e=.normal->ahr=out):iu C w0 σ0 ids fn s rm wr a1 ahr ex' x e a w:=by
 cases e with
 |normal=>obtain⟨O,S,h1,h2,h3,h4⟩:=h;exact⟨O,S,h1,by rw[ho rfl];exact h2,hs.trans h3,h4⟩
 |exit id=>obtain⟨O,S,h1,h2,h3,h4,h5⟩:=h;exact⟨O,S,h1,h2,he _ h3,hs.trans h4,h5⟩
 |ret=>
  cases rm with
  |false=>obtain⟨d,h1,h2,h3⟩:=h;exact⟨d,h1,h2,hs.trans h3⟩
  |true=>obtain⟨O,S,h1,h3,h4,h5⟩:=h;exact⟨O,S,h1,he _ h3,hs.trans h4,h5⟩
 |_=>exact h.elim
def abY {body:Env->Option Out}{O:Env}{ps lo:List Nat}{rt:Option PE}{x:Out}:∀{xs vo:List D},jr body O ps lo rt xs vo=some x->
 ∃(m:Nat) (nK:Nat->List D),m<=xs.length/\nK 0=vo/\
  (∀i,i<m->∃y O',xs[i]?=some y/\body (O.put ps (partsOf ps y) lo (nK i))=some (.next O')/\lo.map O'.o=nK (i+1))/\
  ((m=xs.length/\x=.next (O.put [] [] lo (nK m)))\/
   (m<xs.length/\∃y id O',xs[m]?=some y/\body (O.put ps (partsOf ps y) lo (nK m))=some (.exit id O')/\
    ((id≠cP/\x=.exit id (O.put [] [] lo (lo.map O'.o)))\/(id=cP/\∃e,rt=some e/\x=.ret (e.ev (O.put [] [] lo (lo.map O'.o)))))))
 |[],vo,h=>by
  simp only[jr,aZ] at h;exact⟨0,λ_=>vo,aX _,rfl,λi hi=>by omega,.inl ⟨rfl,h.symm⟩⟩
 |y::xs,vo,h=>by
  simp only[jr] at h;split at h
  .rename_i O' hb;obtain⟨m,nK,h1,h2,h3,h4⟩:=abY h;refine⟨m+1,λi=>match i with|0=>vo|i+1=>nK i,by simp;omega,rfl,λi hi=>?_,?_⟩
   .cases i with
    |zero=>exact⟨y,O',rfl,hb,h2.symm⟩
    |succ i=>simpa using h3 i (by omega)
   .rcases h4 with⟨e1,e2⟩|⟨e1,z,id,ρ2,e2,e3,e4⟩
    .exact .inl ⟨by simp[e1],e2⟩
    .exact .inr ⟨by simp;omega,z,id,ρ2,by simpa using e2,e3,e4⟩
  .rename_i id O' hb;refine⟨0,λ_=>vo,jK _,rfl,λi hi=>by omega,.inr ⟨by simp,y,id,O',rfl,hb,?_⟩⟩;cases cL:Nat.beq id cP<;>simp only[cL,zyy,zyx] at h
   .refine .inl ⟨λe=>?_,(ur h).symm⟩;subst e;simp at cL
   .simp only[aB] at h;obtain⟨e,he,e2⟩:=h;exact .inr ⟨ay cL,e,he,e2.symm⟩
  .cases h
def aa9 {l:List Nat}{t:Nat}(h:t∈l):aR (zk l) t=true:=by
 induction l with
 |nil=>cases h
 |cons x l ih=>
  have e:zk (x::l)=Nat.lor (iv x) (zk l):=rfl;rw[e,gR];rcases cB.1 h with e|e
  .subst e;rw[sQ];rfl
  .rw[ih e];simp
def TO (m:Nat):∀(l:List Sh) (k t:Nat),(u9 m k l).getD t .none=if aR m (k+t)=true then .none else l.getD t .none
 |[],k,t=>by simp[u9]
 |s::l,k,0=>by
  simp only[u9,qQ,iU];cases aR m k<;>rfl
 |s::l,k,t+1=>by
  simp only[u9,DT];rw[TO m l (k+1) t,show k+1+t=k+(t+1) by omega]
def GG (m:Nat)(S:Snap)(t:Nat):((S.mask m).st ids).r t=if aR m t=true then .none else(S.st ids).r t:=by
 show cJ ((u9 m 0 S.rs).getD t .none)=if aR m t=true then .none else cJ (S.rs.getD t .none);rw[TO,fw];split<;>rfl
def aup {m:Nat}{x S:Snap}{t:Nat}(h:aR m t=true):((x.meet (S.mask m)).st ids).r t=.none:=by
 show cJ ((List.zipWith jZ x.rs (u9 m 0 S.rs)).getD t .none)=.none;rcases Pb (f:=jZ) x.rs (u9 m 0 S.rs) t with h0|⟨s,u,h1,h2,h3⟩
 .rw[h0];rfl
 .rw[TO,fw,if_pos h] at h2;subst h2;rw[h3];cases s<;>rfl
def Inv.maskR {S:Snap}{hv:Nat->Value}(h:Inv C (S.st ids) O V own hv w0 σ0 A a w)(m:Nat):Inv C ((S.mask m).st ids) O V own hv w0 σ0 (λ_=>False) a w:=by
 have hc:Compat (S.st ids) hv ((S.mask m).st ids) hv:=⟨λ_=>aX _,λ_ _=>rfl⟩
 refine h.weaken (λt=>?_) (λj=>?_) (Snap.noOpt _ _) (λj hj=>⟨hj,rfl⟩)
 .refine aG.mono' (O:=O) (.refl V) hc (Snap.noOpt _ _ t) ?_;rw[GG];split
  .trivial
  .exact h.regs t
 .exact(h.objs j).mono (.refl V) hc rfl rfl (λk hk=>⟨hk,rfl⟩)
def WV:∀(ps:List Nat) (ys:List Ty) (l:List Sh),ps.length=ys.length->hZ ps=true->∀t,(tY ps ys l).getD t .none=.none\/(t∉ps/\(tY ps ys l).getD t .none=l.getD t .none)\/∃(i:Nat) (y:Ty),ps[i]?=some t/\ys[i]?=some y/\(tY ps ys l).getD t .none=.dat y
 |[],ys,l,_,_,t=>.inr (.inl ⟨by simp,by cases ys<;>rfl⟩)
 |p::ps,[],l,h,_,t=>by simp at h
 |p::ps,y::ys,l,h,hn,t=>by
  have lI:=qn hn;rw[pB] at lI;have dT:hZ ps=true:=by
   simp only[hZ,ao] at hn;exact hn.2
  show(tY ps ys (l.set p (.dat y))).getD t .none=_\/_\/_;rcases WV ps ys (l.set p (.dat y)) (by simpa using h) dT t with e|⟨e1,e2⟩|⟨i,z,e1,e2,e3⟩
  .exact .inl e
  .by_cases hp:t=p
   .subst hp;by_cases af:t<l.length
    .exact .inr (.inr ⟨0,y,rfl,rfl,by show(tY ps ys (l.set t (.dat y))).getD t .none=_;rw[e2];simp[aE,af]⟩)
    .left;rw[e2];simp[aE,af]
   .refine .inr (.inl ⟨by simp[hp,e1],?_⟩);show(tY ps ys (l.set p (.dat y))).getD t .none=_;rw[e2];simp only[aE,DU];rw[if_neg (λe=>hp e.symm)]
  .exact .inr (.inr ⟨i+1,z,by simpa using e1,by simpa using e2,e3⟩)
def nB:List Nat->List Value->Array Value->Array Value
 |p::ps,v::vs,T=>nB ps vs (T.setIfInBounds p v)
 |_,_,T=>T
def axc (ps:Array Nat)(vs:Array Value)(T:Array Value):(ps.zip vs).foldl (λT x=>T.setIfInBounds x.1 x.2) T=nB ps.toList vs.toList T:=by
 rw[<-Array.foldl_toList,Array.toList_zip];generalize ps.toList=l;generalize vs.toList=k
 induction l generalizing k T with
 |nil=>rfl
 |cons p l ih=>
  cases k with
  |nil=>rfl
  |cons v k=>simpa [nB] using ih (T.setIfInBounds p v) k
def ajh:∀(ps:List Nat) (vs:List Value) (T:Array Value),(nB ps vs T).size=T.size
 |[],vs,T=>by cases vs<;>rfl
 |p::ps,[],T=>rfl
 |p::ps,v::vs,T=>by simp[nB,ajh ps vs]
def Ow:∀(ps:List Nat) (vs:List Value) (T:Array Value) (t:Nat),t∉ps->(nB ps vs T).getD t undef=T.getD t undef
 |[],vs,T,t,_=>by cases vs<;>rfl
 |p::ps,[],T,t,_=>rfl
 |p::ps,v::vs,T,t,h=>by
  simp only[cB,not_or] at h;simp only[nB];rw[Ow ps vs _ t h.2];simp only[fe,DM];rw[if_neg (λe=>h.1 e.symm)]
def ajg:∀(ps:List Nat) (vs:List Value) (T:Array Value) (i t:Nat),ps.Nodup->ps.length=vs.length->(∀p,p∈ps->p<T.size)->ps[i]?=some t->(nB ps vs T).getD t undef=vs.getD i undef
 |p::ps,v::vs,T,0,t,hn,hl,af,h=>by
  simp at h;subst h;rw[pB] at hn;simp only[nB];rw[Ow ps vs _ p hn.1];simp[DM,af p (fR ..)]
 |p::ps,v::vs,T,i+1,t,hn,hl,af,h=>by
  rw[pB] at hn;simp only[nB];have:=ajg ps vs (T.setIfInBounds p v) i t hn.2 (by simpa using hl) (λq hq=>by simpa using af q (fq _ hq)) (by simpa using h);simpa using this
 |p::ps,[],T,i,t,hn,hl,af,h=>by simp at hl
 |[],vs,T,i,t,hn,hl,af,h=>by simp at h
def CW (f:Nat->D):∀(ps:List Nat) (vs:List D) (t:Nat),t∉ps->putL f ps vs t=f t
 |[],vs,t,_=>by cases vs<;>rfl
 |p::ps,[],t,_=>rfl
 |p::ps,v::vs,t,h=>by
  simp only[cB,not_or] at h;simp only[putL,bB _ _ h.1];exact CW f ps vs t h.2
def Vf (f:Nat->D):∀(ps:List Nat) (vs:List D) (i t:Nat),ps.Nodup->ps.length=vs.length->ps[i]?=some t->putL f ps vs t=vs.getD i .none
 |p::ps,v::vs,0,t,hn,hl,h=>by
  simp at h;subst h;simp[putL,aN]
 |p::ps,v::vs,i+1,t,hn,hl,h=>by
  rw[pB] at hn;have ht:t∈ps:=kh (by simpa using h);have au:t≠p:=λe=>hn.1 (e▸ht);simp only[putL,bB _ _ au];have:=Vf f ps vs i t hn.2 (by simpa using hl) (by simpa using h);simpa using this
 |p::ps,[],i,t,hn,hl,h=>by simp at hl
 |[],vs,i,t,hn,hl,h=>by simp at h
def avp (ps:List Nat)(ds:List D)(i:Nat)(h:i<ps.length):(partsOf ps (.tup ds)).getD i .none=ds.getD i .none:=by
 simp[partsOf,aE,h,D.tget]
def avo (ps:List Nat)(x:D):(partsOf ps x).length=ps.length:=by simp[partsOf]
def Inv.startR {S:Snap}{hv:Nat->Value}(h:Inv C (S.st ids) O V own hv w0 σ0 A a w){ps:List Nat}{ys:List Ty}{args:List Value}{ds:List D}{lo:List Nat}{vo:List D}(hl:ps.length=ys.length)(bo:hZ ps=true)(af:∀p,p∈ps->p<a.tmps.size)(ha:qL C V ys args ds)
 (hρ:O=O'.put [] [] lo vo):Inv C ((S.start ps ys).st ids) (O'.put ps (partsOf ps (.tup ds)) lo vo) V own hv w0 σ0 (λ_=>False) {tmps:=nB ps args a.tmps,defers:=[]} w:=by
 obtain⟨a1,a2,a3⟩:=ha;have hn:=qn bo;have hc:Compat (S.st ids) hv ((S.start ps ys).st ids) hv:=⟨λ_=>aX _,λ_ _=>rfl⟩
 have ho:∀j,(O'.put ps (partsOf ps (.tup ds)) lo vo).o j=O.o j:=λj=>by rw[hρ];rfl
 refine⟨trivial,h.ok,h.le,h.old,h.newc,h.newm,h.below,h.bw,h.owns,λt=>?_,λj=>(h.objs j).mono (.refl V) hc rfl (ho j) (λk hk=>⟨hk,rfl⟩),λt gs s e=>absurd e (Snap.noOpt _ _ t gs s),?_⟩
 .show aG C _ _ V hv (cJ ((tY ps ys (S.rs.map uT)).getD t .none)) ((nB ps args a.tmps).getD t undef) (putL O'.r ps (partsOf ps (.tup ds)) t);rcases WV ps ys (S.rs.map uT) hl bo t with e|⟨e1,e2⟩|⟨i,y,e1,e2,e3⟩
  .rw[e];trivial
  .rw[e2,Ow _ _ _ _ e1,CW _ _ _ _ e1];have hr:=h.regs t;change aG C _ O V hv (cJ (S.rs.getD t .none)) _ _ at hr;have hρr:O.r t=O'.r t:=by rw[hρ];show putL O'.r [] [] t=_;rfl
   rw[hρr] at hr;have e3:(S.rs.map uT).getD t .none=uT (S.rs.getD t .none):=by
        simp only[aE,bX];cases S.rs[t]?<;>rfl
   rw[e3];generalize S.rs.getD t .none=s at hr;cases s with
   |yv=>trivial
   |opt gs s=>trivial
   |none=>trivial
   |fclo f c=>exact aG.mono' (.refl V) hc (λ_ _ e=>by cases e) hr
   |agg l=>exact aG.mono' (.refl V) hc (λ_ _ e=>by cases e) hr
   |dat t=>exact hr
   |obj j v=>exact aG.mono' (.refl V) hc (λ_ _ e=>by cases e) hr
   |ptr j v o=>exact aG.mono' (.refl V) hc (λ_ _ e=>by cases e) hr
   |eptr j v o q=>exact aG.mono' (.refl V) hc (λ_ _ e=>by cases e) hr
  .rw[e3];have hi:i<ps.length:=(eu.1 e1).1;rw[ajg ps args a.tmps i t hn (by omega) af e1,Vf _ ps _ i t hn (by rw[avo]) e1,avp _ _ _ hi];exact a3 i y e2
 .obtain⟨t,fx,cx,h1,h2⟩:=h.frame;exact⟨t,fx,cx,h1,λj hj=>⟨(h2 j hj).1,by rw[ho j];exact(h2 j hj).2⟩⟩
def xX (C:Ctx)(Z:aS)(fn:Func)(s:Sig)(n:Nat)(ids:List Nat)(R:Array Oper->Bool->Snap->Option (Snap×List PI))(N:Nat)(c:Code):Prop:=
 ∀(rm:Bool) (S:Snap) (r:Res2),comp C fn s n ids R rm c S=some r->∀(rd:Option Nat) (w0:World) (σ0:Base) (wr:Nat->Prop) (O:Env) (x:Out) (a:Act) (w:World),(rm=false->rd=none/\σ0.fin)->CtxOK C σ0->uv C Z w0 σ0->(∀t,t∈cD c->wr t)->a.tmps.size=n->
  Good C w0 σ0 (S.st ids) O (λ_=>False) a w->r.pc.ev Z N O=some x->c.wpIn (FR rd) 0 C.P (iu C w0 σ0 ids fn s rm wr a r.out r.ex x) a w
structure Seg (V:Im) (own:Nat->Option Nat) (w:World) (V':Im) (own':Nat->Option Nat) (w':World):Prop where
 le:V.le V'
 below:Below 0 w w'
 same:∀k,k<w.heap.size->own k=none->w'.heap[k]?=w.heap[k]?
 ow:∀k j,own' k=some j->(∃i,own k=some i)\/w.heap.size<=k
 imm:∀k,((∃o x,V'.c k o=some x)\/∃x,V'.m k=some x)->(∃o x,V.c k o=some x)\/(∃x,V.m k=some x)\/(∃i,own k=some i)\/w.heap.size<=k
structure Free (L:Nat) (V:Im) (own:Nat->Option Nat):Prop where
 own:own L=none
 c:∀o,V.c L o=none
 m:V.m L=none
def Free.seg {L:Nat}{V':Im}{own':Nat->Option Nat}{w':World}(h:Free L V own)(hL:L<w.heap.size)(k:Seg V own w V' own' w'):Free L V' own':=by
 have FJ:¬((∃o x,V'.c L o=some x)\/∃x,V'.m L=some x):=λe=>by
  rcases k.imm L e with⟨o,x,e⟩|⟨x,e⟩|⟨i,e⟩|e
  .rw[h.c o] at e;cases e
  .rw[h.m] at e;cases e
  .rw[h.own] at e;cases e
  .omega
 refine⟨?_,λo=>?_,?_⟩
 .cases e:own' L with
  |none=>rfl
  |some j=>
   rcases k.ow L j e with⟨i,e⟩|e
   .rw[h.own] at e;cases e
   .omega
 .cases e:V'.c L o with
  |none=>rfl
  |some x=>exact absurd (.inl ⟨o,x,e⟩) FJ
 .cases e:V'.m L with
  |none=>rfl
  |some x=>exact absurd (.inr ⟨x,e⟩) FJ
def akw (C:Ctx)(w0:World)(σ0:Base)(ids:List Nat)(wr:Nat->Prop)(a0:Act)(V:Im)(own:Nat->Option Nat)(w:World)(out:Option Snap)(ex:List (Nat×Snap))(x:Out)(e:Exit)(a':Act)(w':World):Prop:=
 ∃O' S' V' own' hv',Inv C (S'.st ids) O' V' own' hv' w0 σ0 (λ_=>False) a' w'/\Seg V own w V' own' w'/\SameBut wr a0 a'/\
  match e with
  |.normal=>x=.next O'/\out=some S'
  |.exit id=>x=.exit id O'/\id≠cP/\(id,S')∈ex
  |.ret=>x=.exit cP O'/\(cP,S')∈ex
  |_=>False
def ajb {N:Nat}{c:Code}(hc:xX C Z fn s n ids R N c){S:Snap}{r:Res2}(hr:comp C fn s n ids R true c S=some r)(mq:C.yl=none)(hC:CtxOK C σ0){wr:Nat->Prop}{O:Env}{x:Out}{hv:Nat->Value}(h:Inv C (S.st ids) O V own hv w0 σ0 (λ_=>False) a w)
 (gC:∀t,t∈cD c->wr t) (hn:a.tmps.size=n) (he:r.pc.ev Z N O=some x) (L:Nat):c.wpIn (FR (some L)) 0 C.P (akw C w0 σ0 ids wr a V own w r.out r.ex x) a w:=by
 obtain⟨t,fx,cx,dS,ht⟩:=h.frame;have h1:=h.toRnd (X:=λ_=>False) ht;refine wpIn_mono (hc true S r hr (some L) w0 (σ0.rnd V own w t λ_=>False) wr O x a w (λe=>by cases e) (hC.mono h.le) (λJ ys e=>by rw[mq] at e;cases e) gC hn ⟨_,_,_,h1⟩ he) λe a' w' ho=>?_
 have main:∀{S':Snap} {O':Env},SameBut wr a a'->Good C w0 (σ0.rnd V own w t λ_=>False) (S'.st ids) O' (λ_=>False) a' w'->∃V' own' hv',Inv C (S'.st ids) O' V' own' hv' w0 σ0 (λ_=>False) a' w'/\Seg V own w V' own' w'/\SameBut wr a a':=by
  intro S' O' hs hg;obtain⟨V',own',hv',h2⟩:=hg;exact⟨V',own',hv',h.ofRnd dS (λ_ _=>id) h2,⟨h2.le,h.rndBelow h2,λk hk ho=>Inv.rndSame h.ok h2 hk ho id,λk j e=>Inv.rndOwn h2 e id,λk e=>Inv.rndC h2 e id⟩,hs⟩
 cases e with
 |normal=>
  obtain⟨O',S',e1,e2,e3,e4⟩:=ho;obtain⟨V',own',hv',g1,g2,g3⟩:=main e3 e4;exact⟨O',S',V',own',hv',g1,g2,g3,e1,e2⟩
 |exit id=>
  obtain⟨O',S',e1,e0,e2,e3,e4⟩:=ho;obtain⟨V',own',hv',g1,g2,g3⟩:=main e3 e4;exact⟨O',S',V',own',hv',g1,g2,g3,e1,e0,e2⟩
 |ret=>
  obtain⟨O',S',e1,e2,e3,e4⟩:=ho;obtain⟨V',own',hv',g1,g2,g3⟩:=main e3 e4;exact⟨O',S',V',own',hv',g1,g2,g3,e1,e2⟩
 |_=>exact ho.elim
def Inv.putL {L:Nat}{hv:Nat->Value}{S:St}{O:Env}(h:Inv C S O V own hv w0 σ0 A a w)(hL:w0.heap.size<=L)(hf:Free L V own)(hx:∀t fx cx,FrOK V own w0.heap.size σ0 w t fx cx->¬fx L)(o:Obj):Inv C S O V own hv w0 σ0 A a (w.putObj L o):=
 h.keep (X:=λk=>k≠L) ⟨rfl,rfl,rfl,by simp,λk hk=>by omega⟩ (λk hk=>World.putObj_heap_other hk) (λk hk=>by omega) (λk j e1 e2=>by subst e2;rw[hf.own] at e1;cases e1) (λk o v e1 e2=>by subst e2;rw[hf.c] at e1;cases e1)
  (λk v e1 e2=>by subst e2;rw[hf.m] at e1;cases e1) (λt fx cx dS k hk e=>by subst e;exact hx t fx cx dS hk)
def aAX {o:Oper}{L:Nat}{x:Operand}{aa:Array Operand}{ts:Array TypeId}{r:Loop}(eD:o.op=.call {callee:=.value x,args:=aa,argTypes:=ts})(hx:a.eval x=.func (.yield L) #[] #[])(hL:w.heap[L]?=some (.loop r))(hs:aa.size=r.params.size):
 (execOp a.eval o).run C.P w=.ok (.round L r.fn ((r.params.zip (aa.map a.eval)).foldl (λtmps (t,v)=>tmps.setIfInBounds t v) r.tmps) r.assign r.body) w:=by
 have hy:=run_yield (P:=C.P) (args:=aa.map a.eval) hL (by simpa using hs);simp[execOp,eD,resolve,hx,Deferred.ofValue,invoke,hy]
def awi {g:Operand}{f:Nat}{vs:List Value}{L:Nat}(hf:∃fn,C.P.funcs[f]?=some fn/\fn.body.isSome=true/\(fn.name== "runtime.NumGoroutine")=false)(hg:a.eval g=.func (.func f) #[] vs.toArray):
 (resolve a.eval (rangeCall g L) 0).run C.P w=.ok {target:=.fn (.func f) vs.toArray,args:=#[.func (.yield L) #[] #[]]} w/\
 (invoke (.fn (.func f) vs.toArray) #[.func (.yield L) #[] #[]]).run C.P w=.ok (.enter f (#[.func (.yield L) #[] #[]]++vs.toArray)) w:=by
 obtain⟨fn,h1,h2,h3⟩:=hf;obtain⟨bd,gU⟩:=aaK.1 h2;have h4:¬fn.name= "runtime.NumGoroutine" :=by simpa using h3
 constructor
 .simp only[resolve,hg];simp[go_sem]
 .simp[invoke,callFunc,h1,gU,h4]
def FrOK.enter {hv:Nat->Value}{S:St}{O:Env}(h:Inv C S O V own hv w0 σ0 A a w){t:D}{fx cx:Nat->Prop}(hf:FrOK V own w0.heap.size σ0 w t fx cx)(r:Loop):FrOK (V.mark w.heap.size) own w0.heap.size σ0 ((w.alloc (.deferred (some []))).alloc (.loop r)) t fx cx:=by
 have hb:=ab4 w (.deferred (some [])) (.loop r);have af:=σ0.lt _ _ _ _ hf.F;have cg:=σ0.sub _ _ _ _ hf.F;have yS:∀k x,(V.mark w.heap.size).m k=some x->V.m k=some x\/k=w.heap.size:=by
  intro k x e;simp only[Im.mark] at e;split at e
  .rename_i e2;exact .inr e2
  .exact .inl e
 refine⟨σ0.keep _ _ _ _ _ hf.F (hb.mono (jK _)) λk hk=>hb.block k (af k hk),hf.own,hf.c,λk x e hc=>?_,λk e hB hk=>?_⟩
 .rcases yS k x e with e|e
  .exact hf.m k x e hc
  .have:=af k (cg k hc);omega
 .rcases yS k _ e with e|e
  .exact hf.d k e hB hk
  .have:=af k hk;omega
structure RSt (C:Ctx) (w0:World) (σR:Base) (ids:List Nat) (ρ1:Env) (lo:List Nat) (aM:Act) (L:Nat) (W1:World) (σ1:Im) (rec:LoopState->Option Code->Loop) (xs:List D) (P:Nat->List D->Snap->LoopState->Option Code->Prop) (t:D) (fx cx:Nat->Prop) (w:World):Prop where
 lt:∀k,fx k->k<w.heap.size
 sub:∀k,cx k->fx k
 old:∀k,k<W1.heap.size->fx k
 ex:∃(i:Nat) (vo:List D) (Sx:Snap) (st:LoopState) (pe:Option Code) (V:Im) (own:Nat->Option Nat) (hv:Nat->Value),t=.list (xs.take i)/\P i vo Sx st pe/\Inv C (Sx.st ids) (ρ1.put [] [] lo vo) V own hv w0 σR (λ_=>False) aM w/\
  σ1.le V/\Free L V own/\w.heap[L]?=some (.loop (rec st pe))/\(∀k j,own k=some j->fx k)/\(∀k o x,V.c k o=some x->fx k)/\(∀k x,V.m k=some x->fx k)/\∀k,cx k↔((∃j,own k=some j)\/k=L)
def RSt.keep {σR:Base}{ρ1:Env}{lo:List Nat}{aM:Act}{L:Nat}{W1:World}{σ1:Im}{rec:LoopState->Option Code->Loop}{xs:List D}{P:Nat->List D->Snap->LoopState->Option Code->Prop}{t:D}{fx cx:Nat->Prop}{w w':World}
 (h0:w0.heap.size<=W1.heap.size) (hL:L<W1.heap.size) (hR:∀t f c w,σR.F t f c w->∀k,f k->k<W1.heap.size) (h:RSt C w0 σR ids ρ1 lo aM L W1 σ1 rec xs P t fx cx w) (hb:Below 0 w w') (hs:∀k,fx k->w'.heap[k]?=w.heap[k]?):
 RSt C w0 σR ids ρ1 lo aM L W1 σ1 rec xs P t fx cx w':=by
 obtain⟨i,vo,Sx,st,pe,V,own,hv,e1,e2,e3,e4,e5,e6,e7,e8,e9,e10⟩:=h.ex;refine⟨λk hk=>lu (h.lt k hk) hb.size,h.sub,h.old,i,vo,Sx,st,pe,V,own,hv,e1,e2,?_,e4,e5,(hs L (h.old L hL)).trans e6,e7,e8,e9,e10⟩;exact e3.keep (X:=fx) hb hs (λk hk=>h.old k (by omega)) e7 e8 e9 (λt f c hf k hk=>h.old k (hR _ _ _ _ hf.F k hk))
def Im.noM_m {V:Im}{k:Nat}{v:List (Value×Value)}(h:V.noM.m k=some v):V.m k=some v/\v≠cC:=by
 simp only[Im.noM] at h;split at h
 .cases h
 .rename_i au;exact⟨h,λe=>au (by rw[h,e])⟩
structure SegL (L:Nat) (V:Im) (own:Nat->Option Nat) (w:World) (V':Im) (own':Nat->Option Nat) (w':World):Prop where
 le:V.le V'
 below:Below 0 w w'
 same:∀k,k<w.heap.size->own k=none->k≠L->w'.heap[k]?=w.heap[k]?
 ow:∀k j,own' k=some j->(∃i,own k=some i)\/w.heap.size<=k
 imm:∀k,((∃o x,V'.c k o=some x)\/∃x,V'.m k=some x)->(∃o x,V.c k o=some x)\/(∃x,V.m k=some x)\/(∃i,own k=some i)\/w.heap.size<=k
def ahM (w:World)(L:Nat)(o:Obj):Below 0 w (w.putObj L o):=⟨rfl,rfl,rfl,by simp,λk hk=>by omega⟩
def Seg.round {L:Nat}{V' V'':Im}{own' ahs:Nat->Option Nat}{w' lj:World}{o o':Obj}(h:Seg V own w V' own' w')(k:Seg V' own' (w'.putObj L o) V'' ahs lj):SegL L V own w V'' ahs (lj.putObj L o'):=by
 have aI:=h.below.size;have wv:=k.below.size;simp only[World.putObj_size] at wv;refine⟨h.le.trans k.le,h.below.trans ((ahM _ _ _).trans (k.below.trans (ahM _ _ _))),λq hq ho hL=>?_,λq j e=>?_,λq e=>?_⟩
 .have h1:own' q=none:=by
   cases e:own' q with
   |none=>rfl
   |some j=>
    rcases h.ow q j e with⟨i,e⟩|e
    .rw[ho] at e;cases e
    .omega
  rw[World.putObj_heap_other hL,k.same q (by simp;omega) h1,World.putObj_heap_other hL,h.same q hq ho]
 .rcases k.ow q j e with⟨i,e⟩|e
  .exact h.ow q i e
  .simp only[World.putObj_size] at e;exact .inr (by omega)
 .rcases k.imm q e with e|e|⟨i,e⟩|e
  .exact h.imm q (.inl e)
  .exact h.imm q (.inr e)
  .rcases h.ow q i e with e|e
   .exact .inr (.inr (.inl e))
   .exact .inr (.inr (.inr e))
  .simp only[World.putObj_size] at e;exact .inr (.inr (.inr (by omega)))
def Env.put_self (O:Env)(lo:List Nat):O.put [] [] lo (lo.map O.o)=O:=by
 have h2:∀u,putL O.o lo (lo.map O.o) u=O.o u:=λu=>by rw[ve];split<;>rfl
 show Env.mk O.r (putL O.o lo (lo.map O.o))=O;rw[funext h2]
def awj {N:Nat}(dv:gP C Z){g:Operand}{ps:Array Tmp}{ca cb:Code}(bJ:xX C Z fn s n ids R N ca)(eG:xX C Z fn s n ids R N cb):xX C Z fn s n ids R N (.rangeFunc g ps ca cb):=by
 intro rm S r hr rd w0 σ0 wr O x a w gz hC hY gC hn hg he;simp only[comp] at hr;split at hr
 case h_2=>cases hr;exact absurd he (nF _ _ _ _)
 rename_i aa rr e mq hu;split at hr
 case h_2=>cases hr;exact absurd he (nF _ _ _ _)
 rename_i ys oQ;split at hr
 case h_2=>cases hr;exact absurd he (nF _ _ _ _)
 rename_i q hq;rw[qN] at hr;split at hr
 case isFalse=>cases hr;exact absurd he (nF _ _ _ _)
 rename_i yE;cases hr;simp only[ao] at yE;obtain⟨⟨⟨hl,bo⟩,af⟩,yY⟩:=yE;have hl:=ay hl;have yY:=jI yY;obtain⟨hrd,kz⟩:=gz rfl;subst hrd;obtain⟨hs,B8,_⟩:=Gw (C:=C) (w0:=w0) (σ0:=σ0) (ids:=ids) 8 hq;simp only[az] at hs;obtain⟨ra,SP,hs⟩:=hs;split at hs
 case h_2=>cases hs
 rename_i S1 hao hax;simp only[aB] at hs;obtain⟨rb,hrb,gY⟩:=hs;have hma:=vK ca SP;have hmb:=vK cb hrb;obtain⟨q1,q2⟩:=q;simp only at SP gY yY B8 he ⊢;generalize p6:ae9 ids (q1::q2.ex.map (·.2)) q2.mo=lo at he;generalize wh:((qm cP q2.ex none).bind λM=>zT C fn s (M.st ids))=rt at he;have F7:∃f caps d,e.ev O=.clo f caps/\Z f caps=some d/\jr (q2.pc.ev Z N) (O.setR n d) ps.toList lo rt d.l (lo.map O.o)=some x:=by
  simp only[PC.ev,PI.runs,PI.run,holds,List.all_nil,zyy] at he;cases bL:e.ev O with
  |clo f caps=>
   rw[bL] at he;simp only[PE.evs,xR] at he;cases hΦ:Z f caps with
   |none=>rw[hΦ] at he;simp at he
   |some d=>
    rw[hΦ] at he;simp only[kj,pE,PE.ev,Env.setR,aN] at he;exact⟨f,caps,d,rfl,hΦ,he⟩
  |_=>rw[bL] at he;simp at he
 obtain⟨f,caps,d,bL,hΦ,he⟩:=F7;obtain⟨V,own,hv,i⟩:=hg;have hx:=cv (gs:=[]) i hC rfl hu;rw[bL] at hx;generalize R7:a.eval g=gv at hx;generalize br:Ty.fn aa rr=ty at hx;cases hx with
 |fn f cs vs ds eU h1 h2 aK=>
 cases br;obtain⟨hfn,aqH⟩:=dv f cs ys eU oQ;obtain⟨xs,rfl,aGn,R8⟩:=aqH caps d hΦ;simp only[D.l_list] at he;obtain⟨m,nK,hm,eF,LY,lG⟩:=abY he;have iq0:=aeB 8 hq i
 have iq:Inv C (q1.st ids) (O.setR n (.list xs)) V own hv w0 σ0 (λ_=>False) a w:=by
  refine iq0.env (Snap.noOpt _ _) (λt ht=>?_) (λ_ _=>rfl);have af:t<q1.rs.length:=by
   refine aaH λhle=>?_;simp only[Snap.st,aE,kg hle,Option.getD_none,cJ,isNone] at ht;cases ht
  simp[Env.setR,bB _ _ (show t≠n by omega)]
 obtain⟨ρ1,hρ1⟩:∃ρ1,O.setR n (.list xs)=ρ1:=⟨_,rfl⟩
 rw[hρ1] at he iq LY lG;have kB:O.o=ρ1.o:=by rw[<-hρ1];rfl
 rw[kB] at eF;refine wpIn_rangeFunc ?_;intro Rq aFO;obtain⟨L,acM⟩:∃L,w.heap.size+1=L:=⟨_,rfl⟩
 obtain⟨rec,jx⟩:∃rec:LoopState->Option Code->Loop,rec=λst pe=>{state:=st,pending:=pe,fn:=Rq,tmps:=a.tmps,params:=ps,assign:=ca,body:=cb,defers:=w.heap.size}:=⟨_,rfl⟩
 have i1:=iq.enter (rec .ready none);obtain⟨t,fx0,cx0,adf,S4⟩:=iq.frame;have aqn:=σ0.lt _ _ _ _ adf.F;have R4:=FrOK.enter iq adf (rec .ready none);have aGl:=iq.below.size;have BX:Free L (V.mark w.heap.size) own:=by
  refine⟨?_,λo=>?_,?_⟩
  .cases e:own L with
   |none=>rfl
   |some j=>have:=(iq.owns L j e).2.1;omega
  .cases e:V.c L o with
   |none=>exact e
   |some x=>have:=iq.lt e;omega
  .simp only[Im.mark,show L≠w.heap.size by omega,if_false];cases e:V.m L with
   |none=>rfl
   |some x=>have:=iq.ltm e;omega
 have mf:V.le (V.mark w.heap.size):=by
  refine⟨λ_ _ _ e=>e,λk x e=>?_⟩;have:k≠w.heap.size:=by have:=iq.ltm e;omega
  simp[Im.mark,this,e]
 have hL1:((w.alloc (.deferred (some []))).alloc (.loop (rec .ready none))).heap[L]?=some (.loop (rec .ready none)):=by
  have:=World.alloc_heap_new (w.alloc (.deferred (some []))) (.loop (rec .ready none));rw[World.size_alloc,acM] at this;exact this
 obtain⟨W1,RI⟩:∃W1,(w.alloc (.deferred (some []))).alloc (.loop (rec .ready none))=W1:=⟨_,rfl⟩
 have aFH:W1.heap.size=w.heap.size+2:=by rw[<-RI];simp
 rw[RI] at i1 R4 hL1;have RZ:(Instr.enterLoop Rq a.tmps ps ca cb none).run C.P w=.ok (L,[{target:=.collected w.heap.size,args:=#[]}]) W1:=by
  rw[<-RI,jx,<-acM];exact run_enterLoop_outer _ _ _ _ _
 obtain⟨σ1,hσ1⟩:∃σ1,V.mark w.heap.size=σ1:=⟨_,rfl⟩
 rw[hσ1] at i1 R4 BX mf;obtain⟨aM,RJ⟩:∃aM:Act,{a with defers:={target:=.collected w.heap.size,args:=#[]}::a.defers}=aM:=⟨_,rfl⟩
 have Fl:aM.tmps=a.tmps:=by rw[<-RJ]
 rw[RJ] at i1;have iR:=i1.toRnd (t:=t) (X:=λk=>k=L) S4;obtain⟨σR,hσR⟩:∃σR,σ0.rnd σ1 own W1 t (λk=>k=L)=σR:=⟨_,rfl⟩
 have vT:∀t' f c w',σR.F t' f c w'->(∀k,f k->k<W1.heap.size/\k≠L)/\∀k,c k->f k/\(∀o,σ1.c k o=none)/\σ1.m k=none:=by
  rw[<-hσR];rintro t' f c w' ⟨_,h2,h3,_⟩;exact⟨λk hk=>⟨((h2 k).1 hk).1,((h2 k).1 hk).2.2.2⟩,λk hk=>(h3 k).1 hk⟩
 have hRC:CtxOK C σR:=by rw[<-hσR];exact hC.mono i1.le
 rw[hσR] at iR
 obtain⟨P,hP⟩:∃P:Nat->List D->Snap->LoopState->Option Code->Prop,P=λi vo Sx st pe=>(i<=m/\vo=nK i/\Sx=q1/\st=.ready/\pe=none)\/
  (i=m+1/\m<xs.length/\st=.done/\∃y id O',xs[m]?=some y/\q2.pc.ev Z N (ρ1.put ps.toList (partsOf ps.toList y) lo (nK m))=some (.exit id O')/\vo=lo.map O'.o/\(id,Sx)∈q2.ex/\((id≠cP/\pe=some (.exit id))\/(id=cP/\pe=some .ret))):=⟨_,rfl⟩
 obtain⟨c1,c2⟩:=awi (C:=C) (w:=W1) (L:=L) hfn R7;refine⟨L,[{target:=.collected w.heap.size,args:=#[]}],W1,_,W1,f,_,W1,RZ,c1,λ_ _=>trivial,c2,(λe=>by cases e),?_⟩
 refine abj ((R8 σ1 W1 (.func (.yield L) #[] #[]) vs (RSt C w0 σR ids ρ1 lo aM L W1 σ1 rec xs P) (λk=>k<W1.heap.size) (λk=>(∃j,own k=some j)\/k=L) m i1.ok (hC.mono i1.le) ⟨h1,h2,λj t e=>(aK j t e).mono mf⟩ hm
  (λt f c w h=>h.lt) (λt f c w h=>h.sub) (λt f c w w' h hb hs=>h.keep (by omega) (by omega) (λt f c w hF k hk=>((vT t f c w hF).1 k hk).1) hb hs) ?_ ?_ ?_ ?_).mono ?_)
 .refine⟨λk hk=>hk,λk hk=>?_,λk hk=>hk,0,nK 0,q1,.ready,none,σ1,own,hv,by simp,by rw[hP];exact .inl ⟨jK _,rfl,rfl,rfl,rfl⟩,?_,.refl σ1,BX,hL1,λk j e=>(iR.owns k j e).2.1,λk o x e=>iR.lt e,λk x e=>iR.ltm e,λk=>.rfl⟩
  .rcases hk with⟨j,e⟩|e
   .exact(iR.owns k j e).2.1
   .show k<W1.heap.size;omega
  .rw[eF,Env.put_self];exact iR
 .rintro k o x e (⟨j,hj⟩|rfl)
  .have:=(iR.owns k j hj).2.2.1 o;rw[e] at this;cases this
  .rw[BX.c] at e;cases e
 .rintro k x e (⟨j,hj⟩|rfl)
  .have:=(iR.owns k j hj).2.2.2;rw[e] at this;cases this
  .rw[BX.m] at e;cases e
 .intro i fx cx w1 σx args ds' hi dM hF hσx ju jv oF dp cQ rd' o a' x' aa ts K Q eD ct acV hK;have aFT:i<xs.length:=(eu.1 dM).1;obtain⟨i',vo,Sx,st,pe,σa,zy,hva,e1,e2,iA,LU,Fj,Ls,Sz,hcA,FQ,B4⟩:=hF.ex;have hii:i'=i:=by
   have h9:=congrArg List.length (congrArg D.l e1);simp only[D.l_list,dO] at h9;omega
  subst hii;rw[hP] at e2;rcases e2 with⟨_,rfl,Fk,rfl,rfl⟩|⟨e2,_⟩
  case inr=>omega
  rw[Fk] at iA;have acN:L<w1.heap.size:=hF.lt L (hF.old L (by omega));have LF:cx L:=(B4 L).2 (.inr rfl)
  have aq7:∀k o v,σx.c k o=some v->zy k=none:=λk o v e=>by
   cases e2:zy k with
   |none=>rfl
   |some j=>exact absurd ((B4 k).2 (.inl ⟨j,e2⟩)) (jv k o v e)
  have FX:∀k v,σx.m k=some v->zy k=none:=λk v e=>by
   cases e2:zy k with
   |none=>rfl
   |some j=>exact absurd ((B4 k).2 (.inl ⟨j,e2⟩)) (oF k v e)
  have hτok:σx.noM.ok w1:=⟨hσx.c,λk v e=>hσx.m k v (Im.noM_m e).1,hσx.f⟩
  have iB:=iA.joinIm (τ:=σx.noM) hτok (λk e=>(Im.noM_m e).2 rfl) aq7 (λk v e=>FX k v (Im.noM_m e).1)
   (λk o v e=>(dp k o v e).imp (λe=>LU.c k o v e) λe=>by omega) (λk v e=>(cQ k v (Im.noM_m e).1).imp (λe=>LU.m k v e) λe=>by omega)
   (λt' f c hf=>⟨λk o v e hc=>by
        obtain⟨g1,g2,g3⟩:=(vT _ _ _ _ hf.F).2 k hc;rcases dp k o v e with e|e
        .rw[g2 o] at e;cases e
        .have:=((vT _ _ _ _ hf.F).1 k g1).1;omega,λk v e hc=>by
        obtain⟨g1,g2,g3⟩:=(vT _ _ _ _ hf.F).2 k hc;rcases cQ k v (Im.noM_m e).1 with e|e
        .rw[g3] at e;cases e
        .have:=((vT _ _ _ _ hf.F).1 k g1).1;omega⟩)
  have hFB:Free L (σa.plus σx.noM) zy:=by
   refine⟨Fj.own,λo=>?_,?_⟩
   .cases e:(σa.plus σx.noM).c L o with
    |none=>rfl
    |some v=>
     rcases Im.plus_c e with e|e
     .rw[Fj.c] at e;cases e
     .exact absurd LF (jv L o v e)
   .cases e:(σa.plus σx.noM).m L with
    |none=>rfl
    |some v=>
     rcases Im.plus_m e with e|e
     .rw[Fj.m] at e;cases e
     .exact absurd LF (oF L v (Im.noM_m e).1)
  have tw:ps.toList.length=ys.length:=by rw[Ag];exact hl.symm
  have apR:qL C (σa.plus σx.noM) ys args ds':=⟨ju.1,ju.2.1,λj t e=>((ju.2.2 j t e).noM).mono (Im.plus_le2 iA.ok hτok)⟩
  have iC:=iB.startR (O':=ρ1) tw bo (λp hp=>by
   have:=cN.1 af p hp;rw[Fl,hn];simpa [pC] using this) apR rfl
  have SL:∃xi,q2.pc.ev Z N (ρ1.put ps.toList (partsOf ps.toList (.tup ds')) lo (nK i'))=some xi/\((i'<m/\∃O',xi=.next O'/\lo.map O'.o=nK (i'+1))\/(i'=m/\m<xs.length/\∃id O',xi=.exit id O')):=by
   by_cases tl:i'<m
   .obtain⟨y,O',g1,g2,g3⟩:=LY i' tl;rw[dM] at g1;cases g1;exact⟨_,g2,.inl ⟨tl,O',rfl,g3⟩⟩
   .obtain rfl:i'=m:=by omega
    rcases lG with⟨g1,_⟩|⟨g1,y,id,O',g2,g3,_⟩
    .omega
    .rw[dM] at g2;cases g2;exact⟨_,g3,.inr ⟨rfl,g1,id,O',rfl⟩⟩
  obtain⟨xi,uY,Tk⟩:=SL;have ab:q2.pc=.seq ra.pc rb.pc:=by rw[<-gY];rfl
  rw[ab] at uY;have aI:(nB ps.toList args aM.tmps).size=n:=by rw[ajh,Fl,hn]
  refine⟨λ_ _=>trivial,?_⟩;rw[Oper.semAt_eq _ _ _ (λc e=>by rw[eD] at e;cases e)];have apS:aa.size=ps.size:=by
   have:=ju.1;rw[<-acV,ef,Ag] at this;omega
  have ak:=aAX (C:=C) eD ct Ls (by rw[jx];exact apS);have arx:(rec .ready none).fn=Rq/\(rec .ready none).tmps=a.tmps/\(rec .ready none).params=ps/\(rec .ready none).assign=ca/\(rec .ready none).body=cb:=by rw[jx];exact⟨rfl,rfl,rfl,rfl,rfl⟩
  obtain⟨r1,r2,r3,r4,r5⟩:=arx;rw[r1,r2,r3,r4,r5] at ak
  have y1:(ps.zip (aa.map a'.eval)).foldl (λtmps (t,v)=>tmps.setIfInBounds t v) a.tmps=nB ps.toList args aM.tmps:=by
   rw[Fl,<-acV,<-vu];exact axc ps (aa.map a'.eval) a.tmps
  rw[y1] at ak;rw[ak];refine⟨(λe=>by cases e),?_⟩;refine roundIn_of_wpIn (F:=FR rd') trivial ?_;show ca.wpIn (FR (some L)) 0 C.P _ _ _;cases nj:ra.pc.ev Z N (ρ1.put ps.toList (partsOf ps.toList (.tup ds')) lo (nK i')) with
  |none=>simp only[PC.ev,nj] at uY;cases uY
  |some xa=>
  refine wpIn_mono (ajb bJ SP mq hRC iC (wr:=λt=>t∈cD ca) (λ_ h=>h) aI nj L) λe2 a1 ZW arH=>?_;obtain⟨ρ2,S2,σ2,jB,iK,iD,tC,iJ,kR⟩:=arH;cases e2 with
  |normal=>
   obtain⟨rfl,BY⟩:=kR;rw[hao] at BY;cases BY;simp only[PC.ev,nj] at uY;have hL2:ZW.heap[L]?=some (.loop (rec .ready none)):=(tC.same L acN hFB.own).trans Ls;have RE:=hFB.seg acN tC;have RF:L<ZW.heap.size:=(ed.1 hL2).1;have Lr:w0.heap.size<=L:=by omega
   refine⟨_,run_beginRound hL2 (by rw[jx]),?_⟩;have iE:=iD.putL Lr RE (λt' f c hf FB=>((vT _ _ _ _ hf.F).1 L FB).2 rfl) (.loop {rec .ready none with state:=.busy});have hL3:(ZW.putObj L (.loop {rec .ready none with state:=.busy})).heap[L]?=some (.loop {rec .ready none with state:=.busy}):=World.putObj_heap_same RF;show cb.wpIn (FR (some L)) 0 C.P _ _ _;refine wpIn_mono (ajb eG hrb mq hRC iE (wr:=λt=>t∈cD cb) (λ_ h=>h) (iJ.size.trans aI) uY L) λe3 a3 w3 arJ=>?_;obtain⟨ρ3,S3,σ3,zx,Gi,iF,Ma,arF,p9⟩:=arJ;have hL4:w3.heap[L]?=some (.loop {rec .ready none with state:=.busy}):=(Ma.same L (by simpa using RF) RE.own).trans hL3;have hF3:=RE.seg (by simpa using RF) Ma;have apD:L<w3.heap.size:=(ed.1 hL4).1;obtain⟨mk,v8⟩:∃mk,Nat.lor (zk (ps.toList++cD ca++cD cb)) (Nat.lor ra.mr rb.mr)=mk:=⟨_,rfl⟩
   have aqZ:∀t,aR mk t=false->t∉ps.toList/\t∉cD ca/\t∉cD cb/\aR ra.mr t=false/\aR rb.mr t=false:=by
        intro t ht;rw[<-v8,gR,gR,aai,aai] at ht;obtain⟨t1,t2,t3⟩:=ht;have:t∉ps.toList++cD ca++cD cb:=λhm=>by rw[aa9 hm] at t1;cases t1
        simp only[dC,not_or] at this;exact⟨this.1.1,this.1.2,this.2,t2,t3⟩
   have SR:∀t,aR mk t=false->aM.tmps.getD t undef=a3.tmps.getD t undef/\(ρ1.put [] [] lo (lo.map ρ3.o)).r t=ρ3.r t:=by
        intro t ht;obtain⟨t1,t2,t3,t4,t5⟩:=aqZ t ht;refine⟨?_,?_⟩
        .rw[arF.get t t3,iJ.get t t2];exact(Ow _ _ _ _ t1).symm
        .have RO:∀O',xi=.next O'\/(∃id,xi=.exit id O')->O'.r t=ρ2.r t:=λO' h=>by
          have yG:xi.env?=some O':=by rcases h with h|⟨id,h⟩<;>rw[h]<;>rfl
          exact(PC.ev_but rb.pc _ _ O' uY yG).r t λhm=>by rw[hmb.1 t hm] at t5;cases t5
         have de:ρ2.r t=putL ρ1.r ps.toList (partsOf ps.toList (.tup ds')) t:=(PC.ev_but ra.pc _ _ ρ2 nj rfl).r t λhm=>by rw[hma.1 t hm] at t4;cases t4
         rw[CW _ _ _ _ t1] at de;show ρ1.r t=ρ3.r t;rw[RO ρ3 (by
          cases e3 with
          |normal=>exact .inl p9.1
          |exit id=>exact .inr ⟨id,p9.1⟩
          |ret=>exact .inr ⟨_,p9.1⟩
          |_=>exact p9.elim),de]
   have Sl:q2.mo=kc ra.mo rb.mo:=by rw[<-gY];rfl
   have SC:∀j,j∉q2.mo->ρ3.o j=ρ1.o j:=by
        intro j hj;rw[Sl,rX,not_or] at hj;have yG:xi.env?=some ρ3:=by
         cases e3 with
         |normal=>rw[p9.1];rfl
         |exit id=>rw[p9.1];rfl
         |ret=>rw[p9.1];rfl
         |_=>exact p9.elim
        rw[(PC.ev_but rb.pc _ _ ρ3 uY yG).o j λhm=>hj.2 (hmb.2 j hm),(PC.ev_but ra.pc _ _ ρ2 nj rfl).o j λhm=>hj.1 (hma.2 j hm)]
        exact CW _ _ _ _ λhm=>by
         rw[<-p6] at hm;have:=(eR.1 hm).1;rw[Sl,rX] at this;exact this.elim hj.1 hj.2
   have SB:∀(S:Snap),S∈(q1::q2.ex.map (·.2))->∀j,qh ((S.st ids).o j)=false->(ρ1.put [] [] lo (lo.map ρ3.o)).o j=ρ3.o j:=by
        intro S hS j hj;show putL ρ1.o lo (lo.map ρ3.o) j=ρ3.o j;rw[ve];split
        .rfl
        .rename_i fF;refine(SC j λvY=>fF ?_).symm;rw[<-p6];exact eR.2 ⟨vY,xL.2 ⟨S,hS,by simpa [Snap.st] using hj⟩⟩
   have fin:∀(jump:Option Code) (Sx:Snap),Inv C (Sx.st ids) (ρ1.put [] [] lo (lo.map ρ3.o)) σ3 zx Gi w0 σR (λ_=>False) aM w3->P (i'+1) (lo.map ρ3.o) Sx (if jump.isNone then .ready else .done) jump->jump.isNone=decide (i'<m)->
        ∃v w',(Instr.endRound L jump).run C.P w3=.ok v w'/\K (a'.put o.dst v) w':=by
        intro jump Sx iG hPn vY;refine⟨_,_,run_endRound jump hL4,?_⟩;have arw:({{rec .ready none with state:=.busy} with state:=if jump.isNone then .ready else .done,pending:=jump}:Loop)=rec (if jump.isNone then .ready else .done) jump:=by rw[jx]
        rw[arw];have aK:=tC.round (L:=L) (o':=.loop (rec (if jump.isNone then .ready else .done) jump)) Ma;have iH:=iG.putL Lr hF3 (λt' f c hf FB=>((vT _ _ _ _ hf.F).1 L FB).2 rfl) (.loop (rec (if jump.isNone then .ready else .done) jump));obtain⟨w4,Th⟩:∃w4,w3.putObj L (.loop (rec (if jump.isNone then .ready else .done) jump))=w4:=⟨_,rfl⟩
        have hL5:w4.heap[L]?=some (.loop (rec (if jump.isNone then .ready else .done) jump)):=by rw[<-Th];exact World.putObj_heap_same apD
        have aGq:w4.heap.size=w3.heap.size:=by rw[<-Th];simp
        rw[Th] at aK iH ⊢;have aFG:W1.heap.size<=w1.heap.size:=by
         have:=hF.lt (W1.heap.size-1) (hF.old _ (by omega));omega
        have aGm:=aK.below.size
        refine hK _ _ ⟨by rw[vY],aK.below,λk hk hc=>aK.same k hk (by
         cases e:zy k with
         |none=>rfl
         |some j=>exact absurd ((B4 k).2 (.inl ⟨j,e⟩)) hc) (λe=>hc (by rw[e];exact LF)),(λk=>k<w4.heap.size/\(k<W1.heap.size\/(∃j,zx k=some j)\/(∃o x,σ3.c k o=some x)\/∃x,σ3.m k=some x)),(λk=>(∃j,zx k=some j)\/k=L),?_,?_,?_⟩
        .refine⟨λk hk=>hk.1,λk hk=>?_,λk hk=>⟨by omega,.inl hk⟩,i'+1,lo.map ρ3.o,Sx,_,jump,σ3,zx,Gi,rfl,hPn,iH,LU.trans ((Im.plus_le1 _ _).trans aK.le),hF3,hL5,λk j e=>⟨(iH.owns k j e).2.1,.inr (.inl ⟨j,e⟩)⟩,λk o x e=>⟨iH.lt e,.inr (.inr (.inl ⟨o,x,e⟩))⟩,λk x e=>⟨iH.ltm e,.inr (.inr (.inr ⟨x,e⟩))⟩,λk=>.rfl⟩;rcases hk with⟨j,e⟩|e
         .exact⟨(iH.owns k j e).2.1,.inr (.inl ⟨j,e⟩)⟩
         .exact⟨by omega,.inl (by omega)⟩
        .rintro k ⟨_,hk⟩ bD
         have FJ:((∃o x,σ3.c k o=some x)\/∃x,σ3.m k=some x)->fx k\/(∃o x,σx.c k o=some x)\/(∃x,σx.m k=some x/\x≠cC):=λh=>by
          rcases aK.imm k h with⟨o,x,e⟩|⟨x,e⟩|⟨j,e⟩|e
          .rcases Im.plus_c e with e|e
           .exact .inl (hcA k o x e)
           .exact .inr (.inl ⟨o,x,e⟩)
          .rcases Im.plus_m e with e|e
           .exact .inl (FQ k x e)
           .exact .inr (.inr ⟨x,(Im.noM_m e).1,(Im.noM_m e).2⟩)
          .exact .inl (Sz k j e)
          .omega
         rcases hk with hk|⟨j,e⟩|e|e
         .exact .inl (hF.old k hk)
         .rcases aK.ow k j e with⟨j',e⟩|e
          .exact .inl (Sz k j' e)
          .omega
         .exact FJ (.inl e)
         .exact FJ (.inr e)
        .rintro k (⟨j,e⟩|e) bD
         .rcases aK.ow k j e with⟨j',e⟩|e
          .exact(B4 k).2 (.inl ⟨j',e⟩)
          .omega
         .rw[e];exact LF
   have pY:lq σ3 w0.heap.size aM.defers:=iA.defers.mono ((Im.plus_le1 _ _).trans (tC.le.trans Ma.le));have SM:q2.out=rb.out.map (Snap.mask mk)/\q2.ex=rb.ex.map (λx=>(x.1,x.2.mask mk)):=by rw[<-gY,<-v8];exact⟨rfl,rfl⟩
   cases e3 with
   |normal=>
    obtain⟨e4,e5⟩:=p9;have hT:q2.out=some (S3.mask mk):=by rw[SM.1,e5];rfl
    have adg:=B8 _ hT
    have iG:Inv C (q1.st ids) ρ3 σ3 zx Gi w0 σR (λ_=>False) a3 w3:=by
        have:=Snap.meet_ok2 (x:=q1) (iF.maskR mk)
        rwa [adg] at this
    have iH:=iG.restore (O':=ρ1.put [] [] lo (lo.map ρ3.o)) (a':=aM) (Snap.noOpt _ _) pY (λt ht=>SR t (by
        cases e:aR mk t with
        |false=>rfl
        |true=>
         have h9:=aup (x:=q1) (S:=S3) (ids:=ids) e;rw[adg] at h9;rw[h9] at ht;cases ht)) (λj hj=>SB q1 (fR ..) j hj)
    rcases Tk with⟨tl,O',e6,e7⟩|⟨_,_,id,O',e6⟩
    .rw[e4] at e6;cases e6;exact fin none q1 iH (by rw[hP];exact .inl ⟨by omega,e7,rfl,rfl,rfl⟩) (by simp[tl])
    .rw[e4] at e6;cases e6
   |exit id=>
    obtain⟨e4,e5,e6⟩:=p9;have cV:(id,S3.mask mk)∈q2.ex:=by rw[SM.2];exact cr.2 ⟨_,e6,rfl⟩
    have iH:=(iF.maskR mk).restore (O':=ρ1.put [] [] lo (lo.map ρ3.o)) (a':=aM) (Snap.noOpt _ _) pY (λt ht=>SR t (by
        cases e:aR mk t with
        |false=>rfl
        |true=>rw[GG,if_pos e] at ht;cases ht)) (λj hj=>SB (S3.mask mk) (fq _ (cr.2 ⟨_,cV,rfl⟩)) j hj)
    rcases Tk with⟨tl,O',e7,_⟩|⟨tl,rK,bP,O',e7⟩
    .rw[e4] at e7;cases e7
    .subst tl;refine fin (some (.exit id)) (S3.mask mk) iH ?_ (by simp);rw[hP];refine .inr ⟨rfl,rK,rfl,_,id,ρ3,dM,?_,rfl,cV,.inl ⟨e5,rfl⟩⟩;rw[ab];simp only[PC.ev,nj];rw[uY,e4]
   |ret=>
    obtain⟨e4,e6⟩:=p9;have cV:(cP,S3.mask mk)∈q2.ex:=by rw[SM.2];exact cr.2 ⟨_,e6,rfl⟩
    have iH:=(iF.maskR mk).restore (O':=ρ1.put [] [] lo (lo.map ρ3.o)) (a':=aM) (Snap.noOpt _ _) pY (λt ht=>SR t (by
        cases e:aR mk t with
        |false=>rfl
        |true=>rw[GG,if_pos e] at ht;cases ht)) (λj hj=>SB (S3.mask mk) (fq _ (cr.2 ⟨_,cV,rfl⟩)) j hj)
    rcases Tk with⟨tl,O',e7,_⟩|⟨tl,rK,bP,O',e7⟩
    .rw[e4] at e7;cases e7
    .subst tl;refine fin (some .ret) (S3.mask mk) iH ?_ (by simp);rw[hP];refine .inr ⟨rfl,rK,rfl,_,cP,ρ3,dM,?_,rfl,cV,.inr ⟨rfl,rfl⟩⟩;rw[ab];simp only[PC.ev,nj];rw[uY,e4]
   |_=>exact p9.elim
  |exit id=>obtain⟨_,_,e6⟩:=kR;rw[hax] at e6;cases e6
  |ret=>obtain⟨_,e6⟩:=kR;rw[hax] at e6;cases e6
  |_=>exact kR.elim
 .rintro e' w' ⟨⟨v,rfl⟩,fx,cx,hF⟩;rw[show({tmps:=a.tmps,defers:=[{target:=Target.collected w.heap.size,args:=#[]}]++a.defers}:Act)=aM from RJ];obtain⟨i',vo,Sx,st,pe,σa,zy,hva,e1,e2,iA,LU,Fj,Ls,Sz,hcA,FQ,B4⟩:=hF.ex;have h9:=congrArg List.length (congrArg D.l e1);simp only[D.l_list,dO] at h9;have cA:(rec st pe).state≠.busy:=by
   rw[hP] at e2;rw[jx];rcases e2 with⟨_,_,_,e3,_⟩|⟨_,_,e3,_⟩<;>(rw[e3];intro e;cases e)
  have oM:(rec st pe).pending=pe:=by rw[jx]
  have R0:(Instr.endLoop L).run C.P w'=.ok pe (w'.putObj L (.loop {rec st pe with state:=.exhausted})):=(run_endLoop (P:=C.P) Ls cA).trans (congrArg (λz=>Result.ok z _) oM);have iF:=iA.putL (by omega:w0.heap.size<=L) Fj (λt' f c hf FB=>((vT _ _ _ _ hf.F).1 L FB).2 rfl) (.loop {rec st pe with state:=.exhausted});rw[<-hσR] at iF;have iG:=i1.ofRnd R4 (λk hk e=>by have:=aqn k hk;omega) iF;have kS:SameBut wr a aM:=⟨by rw[Fl],λt _=>by rw[Fl]⟩
  refine⟨pe,_,R0,?_⟩;rw[hP] at e2;rcases e2 with⟨e3,rfl,Fk,_,rfl⟩|⟨rfl,rK,_,y,id,O',g1,g2,rfl,g4,g5⟩
  .rcases lG with⟨g1,g2⟩|⟨g1,_⟩
   .obtain rfl:i'=m:=by omega
    rw[Fk] at iG;exact⟨_,q1,g2,rfl,kS,_,_,_,iG⟩
   .omega
  .rcases lG with⟨g6,_⟩|⟨_,y',bP,O'',k1,k2,k3⟩
   .omega
   .rw[g1] at k1;cases k1;rw[g2] at k2;cases k2;rcases k3 with⟨k3,k4⟩|⟨k3,pe',k4,k5⟩
    .rcases g5 with⟨_,rfl⟩|⟨g5,_⟩
     .exact wpIn_exit ⟨_,Sx,k4,k3,eR.2 ⟨g4,by simp[fy k3]⟩,kS,_,_,_,iG⟩
     .exact absurd g5 k3
    .rcases g5 with⟨g5,_⟩|⟨_,rfl⟩
     .exact absurd k3 g5
     .subst k3;rw[<-wh,az] at k4;obtain⟨M,hM,SQ⟩:=k4;obtain⟨M',hM',uP⟩:=TQ (⟨_,_,_,iG⟩:Good C w0 σ0 (Sx.st ids) _ (λ_=>False) aM _) q2.ex none g4;rw[hM] at hM';cases hM';obtain⟨σm,aHj,hvm,im⟩:=uP;exact wpIn_ret ⟨_,k5,Inv.retD hC (λ_=>rfl) kz SQ _ im rfl,kS⟩
def afd {arr:Array MapEntry}{clock:Nat}(hb:nN arr clock){idx:List Nat}(hi:∀i,i∈idx->i<arr.size){i:Nat}{e:MapEntry}(he:arr[i]?=some e):(gJ arr idx).contains e.born=true↔i∈idx:=by
 simp only[gJ,List.contains_toArray,List.contains_iff_mem,cr];constructor
 .rintro⟨j,hj,h⟩;have af:=hi j hj;rw[ir af] at h;simp only at h;have:=hb.2 j i arr[j] e (ir af) he h;rw[<-this];exact hj
 .intro h;exact⟨i,h,by rw[he]⟩
def aw7 (arr:Array MapEntry)(idx:List Nat){i:Nat}{e:MapEntry}(he:arr[i]?=some e):(gJ arr idx).push e.born=gJ arr (idx++[i]):=by
 simp[gJ,he]
def auv {P:Program}{w:World}{k m:Nat}{arr:Array MapEntry}{clock:Nat}{idx:List Nat}(hk:w.heap[k]?=some (.mapIter (some m) clock (gJ arr idx) clock))(hm:w.heap[m]?=some (.map arr clock))(hb:nN arr clock)(hi:∀i,i∈idx->i<arr.size)(T:TypeId):
 ∃w1:World,(w1=w\/w1=w.drew)/\(((∀i,i<arr.size->i∈idx)/\(Instr.next (.pointer (some ⟨k,0,none⟩)) false T).run P w=.ok (.tuple #[.bool false]) w1)\/
  ∃i e,arr[i]?=some e/\i∉idx/\(Instr.next (.pointer (some ⟨k,0,none⟩)) false T).run P w=.ok (.tuple #[.bool true,e.key,e.val]) {w1 with heap:=w1.heap.setIfInBounds k (.mapIter (some m) clock (gJ arr (idx++[i])) clock)}):=by
 have cV:∀{e:MapEntry},e∈arr->∃i:Nat,arr[i]?=some e:=λhe=>by
  obtain⟨i,hi,rfl⟩:=Array.mem_iff_getElem.1 he;exact⟨i,ir hi⟩
 have hold:∀(l:Array MapEntry),(∀e,e∈l->e.born<clock)->l.filter (λx=>decide (x.born<clock))=l:=λl h=>by
  rw[Array.filter_eq_self];intro e he;simpa using h e he
 have mi:∀(l:Array MapEntry),(∀e,e∈l->e.born<clock)->l.filter (λx=>decide (x.born>=clock))=#[]:=λl h=>by
  rw[Array.filter_eq_empty_iff];intro e he;have:=h e he;simp;omega
 have RP:∀e,e∈arr->e.born<clock:=λe he=>by obtain⟨i,hi⟩:=cV he;exact hb.1 i e hi
 have jR:(!(gJ arr idx).isEmpty&& !arr.isEmpty&&arr.all (λx=>decide (x.born>=clock)))=false:=by
  cases ha:arr.isEmpty
  .have au:arr.size≠0:=by simpa using ha
   have:arr.all (λx=>decide (x.born>=clock))=false:=by
        rw[aah];intro h;rw[Array.all_eq_true] at h;have h0:=h 0 (by omega);have h1:=RP arr[0] (aae _);simp at h0;omega
   rw[this,Ah]
  .simp
 let left:=arr.filter λe=> !(gJ arr idx).contains e.born
 have hl:∀e,e∈left->e.born<clock:=λe he=>RP e (aaf.1 he).1;by_cases hz:left.size=0
 .refine⟨w,.inl rfl,.inl ⟨λi af=>?_,?_⟩⟩
  .by_cases bO:i∈idx
   .exact bO
   .exfalso;have LV:arr[i]∈left:=aaf.2 ⟨aae _,by
     have:=afd hb hi (ir af);cases hc:(gJ arr idx).contains arr[i].born with
     |false=>rfl
     |true=>exact absurd (this.1 hc) bO⟩
    have:left=#[]:=Pc hz;rw[this] at LV;simp at LV
  .have he:left=#[]:=Pc hz;have rG:arr.filter (λe=> !(gJ arr idx).contains e.born)=#[]:=he;simp only[Instr.next,getObj,Sem.run_bind,Sem.run,hk,hm,Result.andThen_ok,jR,rG];simp[Question.forced,Sem.run]
 .have rH:left.filter (λx=>decide (x.born<clock))=left:=hold left hl;have Fz:left.filter (λx=>decide (x.born>=clock))=#[]:=mi left hl;have hem:left.isEmpty=false:=by simpa using hz
  have key:∀c,c<left.size->∃i e,arr[i]?=some e/\i∉idx/\left[c]?=some e:=λc hc=>by
   have LV:left[c]∈left:=aae _;obtain⟨h1,h2⟩:=aaf.1 LV;obtain⟨i,df⟩:=cV h1;refine⟨i,left[c],df,λbO=>?_,ir hc⟩;rw[(afd hb hi df).2 bO] at h2;cases h2
  obtain⟨w1,c,je,hc,kP⟩:∃w1 c,(w1=w\/w1=w.drew)/\c<left.size/\(choose (.mapNext left.size)).run P w=.ok c w1:=by
   by_cases h1:left.size<=1
   .exact⟨w,0,.inl rfl,by omega,by simp[Question.forced,h1]⟩
   .exact⟨w.drew,_,.inr rfl,pD _ (by omega),by simp[Question.forced,h1,Question.cut];rfl⟩
  obtain⟨i,e,h1,h2,h3⟩:=key c hc;refine⟨w1,je,.inr ⟨i,e,h1,h2,?_⟩⟩;have yP:arr.filter (λe=> !(gJ arr idx).contains e.born)=left:=rfl;have jU:(getObj k).run P w=.ok (.mapIter (some m) clock (gJ arr idx) clock) w:=by simp[getObj,Sem.run,hk]
  have iz:(getObj m).run P w=.ok (.map arr clock) w:=by simp[getObj,Sem.run,hm]
  have bD:w1.heap[k]?=some (.mapIter (some m) clock (gJ arr idx) clock):=by rcases je with rfl|rfl<;>exact hk
  have hg3:(setObj k (.mapIter (some m) clock ((gJ arr idx).push e.born) clock)).run P w1=.ok () {w1 with heap:=w1.heap.setIfInBounds k (.mapIter (some m) clock ((gJ arr idx).push e.born) clock)}:=by simp[setObj,Sem.run,bD]
  have apX:((if false=true then #[none] else #[])++Array.map some (left++#[]):Array (Option MapEntry))=left.map some:=by simp
  have jv:(left.map some)[c]?=some (some e):=by simp[h3]
  have adj:∀(Es:Array (Option MapEntry)) (cc:Nat),(choose (.mapNext Es.size)).run P w=.ok cc w1->Es[cc]?=some (some e)->(do
        match Es[<-choose (.mapNext Es.size)]? with
        |some (some e)=>
         setObj k (.mapIter (some m) clock ((gJ arr idx).push e.born) clock)
         pure (.tuple #[.bool true,e.key,e.val])
        |some none=>(pure (.tuple #[.bool false]):Sem Value)
        |none=>stuck "Next: no such candidate" :Sem Value).run P w=.ok (.tuple #[.bool true,e.key,e.val]) {w1 with heap:=w1.heap.setIfInBounds k (.mapIter (some m) clock ((gJ arr idx).push e.born) clock)}:=by
   intro Es cc h4 h5;rw[Sem.run_bind,h4];simp only[Result.andThen_ok,h5];rw[Sem.run_bind,hg3];rfl
  rw[aw7 arr idx h1] at adj hg3;have:=adj (left.map some) c (by rw[Array.size_map];exact kP) jv;simp only[Instr.next];rw[Sem.run_bind,jU];simp only[Result.andThen_ok];rw[Sem.run_bind,iz];simp only[Result.andThen_ok,jR,yP,rH,Fz,hem];rw[apX,if_neg (by decide)];exact this
def anG {P:Program}{w:World}{k m:Nat}{arr:Array MapEntry}{clock:Nat}{idx:List Nat}{i:Nat}{e:MapEntry}(hk:w.heap[k]?=some (.mapIter (some m) clock (gJ arr (idx++[i])) clock))(hm:w.heap[m]?=some (.map arr clock))(hb:nN arr clock)(he:arr[i]?=some e):
 (Instr.entry (.pointer (some ⟨k,0,none⟩))).run P w=.ok (.tuple #[e.key,e.val]) w:=by
 have apU:(gJ arr (idx++[i])).back?=some e.born:=by simp[gJ,he]
 have FD:arr.find? (λx=>x.born==e.born)=some e:=by
  have af:i<arr.size:=(ed.1 he).1;have hei:arr[i]=e:=(ed.1 he).2;rw[Array.find?_eq_some_iff_getElem];refine⟨by simp,i,af,hei,λj hj=>?_⟩;have fF:j<arr.size:=by omega
  cases hc:(arr[j].born==e.born) with
  |false=>rfl
  |true=>
   have:=hb.2 j i arr[j] e (ir fF) he (by simpa using hc);omega
 simp[Instr.entry,getObj,Sem.run_bind,Sem.run,hk,hm,apU,FD]
def aui {x y z:Code}{k:Nat}{p:MP}(h:CE x y k z=some p):∃i1 i2 o1 o2 o3 l,x=.region i1 p.ops1 false/\y=.cond (.tmp p.mo) .skip (.exit p.out)/\z=.region i2 p.ops2 false/\p.next=k/\p.ops1.toList=[o1,o2]/\p.ops2.toList=o3::l/\
 o1.dst=some p.nx/\o1.guard=none/\o1.op=.next (.tmp p.it) false/\o2.dst=some p.mo/\o2.guard=none/\o2.op=.extract (.tmp p.nx) 0/\o3.dst=some p.pr/\o3.guard=none/\o3.op=.entry (.tmp p.it)/\lR p.pr l []=some p.aa/\
 p.it≠p.nx/\p.it≠p.mo/\p.it≠p.pr/\p.nx≠p.mo/\p.out≠cP/\k≠cP:=by
 unfold CE at h;split at h
 case h_2=>cases h
 rename_i i1 ops1 mo out i2 ops2;split at h
 case h_2=>cases h
 rename_i o1 o2 o3 l e1 e2;split at h
 case h_2=>cases h
 rename_i nx it mo' nx' pr it' d1 g1 q1 d2 g2 q2 d3 g3 q3;rw[qN] at h;split at h
 case isFalse=>cases h
 rename_i hc;simp only[aB] at h;obtain⟨aa,h4,rfl⟩:=h;simp only[ao,kK] at hc;obtain⟨⟨⟨⟨⟨⟨⟨⟨c1,c2⟩,c3⟩,c4⟩,c5⟩,c6⟩,c7⟩,c8⟩,c9⟩:=hc;have ne:∀{a b:Nat},Nat.beq a b=false->a≠b:=λh e=>by subst e;simp at h
 obtain rfl:=ay c1;obtain rfl:=ay c2;obtain rfl:=ay c3;exact⟨i1,i2,o1,o2,o3,l,rfl,rfl,rfl,rfl,e1,e2,d1,g1,q1,d2,g2,q2,d3,g3,q3,h4,ne c4,ne c5,ne c6,ne c7,ne c8,ne c9⟩
def M8 {pr:Nat}:∀(l:List Oper) {acc aa:List (Nat×Nat)},lR pr l acc=some aa->∀x,x∈acc->x∈aa
 |[],acc,aa,h,x,hx=>by simp only[lR,aZ] at h;subst h;exact hx
 |o::l,acc,aa,h,x,hx=>by
  simp only[lR] at h;split at h
  case h_2=>cases h
  rw[qN] at h;split at h
  .cases h
  split at h
  .rw[qN] at h;split at h
   .exact M8 l h x (iT _ hx)
   .cases h
  .simp only[az] at h;obtain⟨i,_,h⟩:=h;exact M8 l h x (iT _ hx)
  .simp only[az] at h;obtain⟨i,_,h⟩:=h;exact M8 l h x (iT _ hx)
  .cases h
def GC:∀{l:List (Nat×Nat)} {t i:Nat},wM l t=some i->(t,i)∈l
 |x::l,t,i,h=>by
  simp only[wM] at h;cases hb:Nat.beq x.1 t<;>simp only[hb,zyy,zyx] at h
  .exact fq _ (GC h)
  .cases h;have:=ay hb;subst this;exact fR ..
def ae5:∀{l:List (Nat×Nat)} {t:Nat},(wM l t).isSome=false->∀x,x∈l->x.1≠t
 |y::l,t,h,x,hx=>by
  simp only[wM] at h;cases hb:Nat.beq y.1 t<;>simp only[hb,zyy,zyx] at h
  .rcases cB.1 hx with e|hx
   .subst e;intro e;subst e;simp at hb
   .exact ae5 h x hx
  .cases h
def U6 {pr:Nat}:∀(l:List Oper) {acc aa:List (Nat×Nat)},lR pr l acc=some aa->(∀x,x∈acc->x.2<=1)->∀x,x∈aa->x∈acc\/(x.2<=1/\∃o,o∈l/\o.dst=some x.1)
 |[],acc,aa,h,_,x,hx=>by simp only[lR,aZ] at h;subst h;exact .inl hx
 |o::l,acc,aa,h,ha,x,hx=>by
  simp only[lR] at h;split at h
  case h_2=>cases h
  rename_i d hd oH;rw[qN] at h;split at h
  .cases h
  have go:∀(pt:Nat),pt<=1->lR pr l (acc++[(d,pt)])=some aa->x∈acc\/(x.2<=1/\∃o',o'∈o::l/\o'.dst=some x.1):=by
   intro pt wg hp
   rcases U6 l hp (λy hy=>by
        rcases dC.1 hy with h|h
        .exact ha y h
        .simp at h;subst h;exact wg) x hx with h|⟨h1,o',h2,h3⟩
   .rcases dC.1 h with h|h
    .exact .inl h
    .simp at h;subst h;exact .inr ⟨wg,o,fR ..,hd⟩
   .exact .inr ⟨h1,o',fq _ h2,h3⟩
  split at h
  .rw[qN] at h;split at h
   case isFalse=>cases h
   rename_i jv;simp only[ao] at jv;exact go _ (jI jv.2) h
  .simp only[az] at h;obtain⟨i,hi,h⟩:=h;exact go i (ha _ (GC hi)) h
  .simp only[az] at h;obtain⟨i,hi,h⟩:=h;exact go i (ha _ (GC hi)) h
  .cases h
def CP {P:Program}{ops:Array Oper}{i:Nat}{rest:List Nat}{o:Oper}{rd:Option Nat}{a:Act}{w w':World}{Q:Exit->Act->World->Prop}{v:Value}(ho:ops[i]?=some o)(hg:o.guard=none)(bo:tL o.op=true)(hx:(execOp a.eval o).run P w=.ok (.value v) w')
 (k:wpOpsIn (FR rd) 0 P ops Q rest (a.put o.dst v) w'):wpOpsIn (FR rd) 0 P ops Q (i::rest) a w:=by
 simp only[wpOpsIn,ho];rw[if_pos (by simp[Region.wanted,hg])];exact ahq bo (by unfold Oper.wp;rw[hx];exact k)
def aw2 {ops:Array Oper}{o:Oper}(ho:o∈ops.toList)(a:Act)(v:Value):SameBut (BF ops) a (a.put o.dst v):=by
 have:=SameBut.put a o.dst v a.defers;exact this.mono λt e=>⟨o,ho,e⟩
def CX {a:Act}{d:Nat}{v:Value}(h:d<a.tmps.size):(a.put (some d) v).tmps.getD d undef=v:=by rw[zZ];simp[h]
def Ni {a:Act}{d t:Nat}{v:Value}(h:t≠d):(a.put (some d) v).tmps.getD t undef=a.tmps.getD t undef:=by rw[zZ];simp[h]
def put_defers (a:Act)(d:Option Nat)(v:Value):(a.put d v).defers=a.defers:=by cases d<;>rfl
def GQ (kv vv:Value)(i:Nat):Value:=if i=0 then kv else vv
def ahC {P:Program}{ops:Array Oper}{rd:Option Nat}{Q:Exit->Act->World->Prop}{pr:Nat}{kv vv:Value}{w:World}:∀(l:List Oper) (acc aa:List (Nat×Nat)) (i:Nat) (a:Act),lR pr l acc=some aa->ops.toList.drop i=l->(∀x,x∈aa->x.1<a.tmps.size)->a.tmps.getD pr undef=.tuple #[kv,vv]->
 (∀x,x∈acc->a.tmps.getD x.1 undef=GQ kv vv x.2)->(∀a',SameBut (BF ops) a a'->a'.defers=a.defers->(∀x,x∈aa->a'.tmps.getD x.1 undef=GQ kv vv x.2)->Q .normal a' w)->wpOpsIn (FR rd) 0 P ops Q (List.range' i (ops.size-i)) a w
 |[],acc,aa,i,a,h,hl,af,rO,Fm,hQ=>by
  simp only[lR,aZ] at h;subst h;have:ops.size-i=0:=by
    have:=aar.1 hl;simp at this;omega
  rw[this];exact hQ a (.refl _ _) rfl Fm
 |o::l,acc,aa,i,a,h,hl,af,rO,Fm,hQ=>by
  have hi:i<ops.toList.length:=by
   refine aaH λhle=>?_;rw[aar.2 hle] at hl;cases hl
  rw[akn hi] at hl;have ho:ops[i]?=some o:=by
   have:ops.toList[i]=o:=by injection hl
   rw[<-this];simp at hi ⊢
  have tp:ops.toList.drop (i+1)=l:=by injection hl
  have aI:ops.size-i=(ops.size-(i+1))+1:=by simp at hi;omega
  rw[aI,Pr];have cV:o∈ops.toList:=by simpa using qM ho
  simp only[lR] at h;split at h
  case h_2=>cases h
  rename_i d hd oH;rw[qN] at h;split at h
  .cases h
  rename_i hc;simp only[kL,not_or,Bool.not_eq_true] at hc;have hdp:pr≠d:=λe=>by subst e;simp at hc
  have RW:∀x,x∈acc->x.1≠d:=ae5 hc.2;have go:∀(pt:Nat) (v:Value),lR pr l (acc++[(d,pt)])=some aa->tL o.op=true->v=GQ kv vv pt->(execOp a.eval o).run P w=.ok (.value v) w->wpOpsIn (FR rd) 0 P ops Q (i::List.range' (i+1) (ops.size-(i+1))) a w:=by
   intro pt v hp bo hv hx;have Fx:d<a.tmps.size:=af _ (M8 l hp (d,pt) (by simp));refine CP ho oH bo hx ?_;have kS:=aw2 cV a v;rw[hd] at kS ⊢;refine ahC l _ aa (i+1) _ hp tp (λx hx=>by rw[kS.size];exact af x hx) (by rw[Ni hdp];exact rO) (λx hx=>?_) (λa' h1 h2 h3=>hQ a' (kS.trans h1) (h2.trans (put_defers _ _ _)) h3);rcases dC.1 hx with hx|hx
   .rw[Ni (RW x hx)];exact Fm x hx
   .simp at hx;subst hx;rw[CX Fx];exact hv
  split at h
  .rename_i t pt e;rw[qN] at h;split at h
   case isFalse=>cases h
   rename_i jv;simp only[ao] at jv;have ht:=ay jv.1;have wg:=jI jv.2;subst ht;have bL:a.eval (.tmp t)=.tuple #[kv,vv]:=by simpa [Act.eval] using rO
   refine go pt (GQ kv vv pt) h (by rw[e];rfl) rfl ?_;rcases(by omega:pt=0\/pt=1) with rfl|rfl<;>simp[execOp,e,bL,Instr.extract,GQ]
  .rename_i t e;simp only[az] at h;obtain⟨pt,yP,h⟩:=h;have:=Fm _ (GC yP);exact go pt (a.eval (.tmp t)) h (by rw[e];rfl) (by simpa [Act.eval] using this) (by simp[execOp,e])
  .rename_i t e;simp only[az] at h;obtain⟨pt,yP,h⟩:=h;have:=Fm _ (GC yP);exact go pt (a.eval (.tmp t)) h (by rw[e];rfl) (by simpa [Act.eval] using this) (by simp[execOp,e])
  .cases h
def TB (ids:List Nat)(J j:Nat)(S:Snap):((S.kill ids J).st ids).o j=if j=J then .dead else(S.st ids).o j:=by
 show dy ids (zd ids J S.os) j=_;have:∀(is:List Nat) (os:List Ob),dy is (zd is J os) j=if j=J then .dead else dy is os j:=by
  intro is
  induction is with
  |nil=>intro os;simp[zd,dy]
  |cons i is ih=>
   intro os;cases os with
   |nil=>simp[zd,dy]
   |cons o os=>
    simp only[zd,dy];cases hb:Nat.beq i j
    .simp only[zyx];exact ih os
    .have:=ay hb;subst this;simp only[zyy];by_cases dw:i=J
     .subst dw;simp
     .simp[fy dw,dw]
 exact this ids S.os
def abd {N:Nat}{id:Nat}(LN:id≠cP){rm:Bool}{wr:Nat->Prop}{a:Act}{q:Res2}{x xi:Out}(tq:(∀t,t∈q.pc.modR->aR q.mr t=true)/\∀j,j∈q.pc.modO->j∈q.mo)(dM:q.pc.ev Z N O=some xi)(bL:(gS ids id q).pc.ev Z N O=some x){e:Exit}{a':Act}{w':World}
 (fW:iu C w0 σ0 ids fn s rm wr a q.out q.ex xi e a' w'):Exit.inBlock id (iu C w0 σ0 ids fn s rm wr a (gS ids id q).out (gS ids id q).ex x) e a' w':=by
 have FC:∀bP S1,(bP,S1)∈q.ex->bP≠id->(bP,S1)∈q.ex.filter λx=> !Nat.beq x.1 id:=λbP S1 hm au=>eR.2 ⟨hm,by simp[fy au]⟩;have main:∀(o:Option Snap) (lr lo:List Nat),qm id q.ex q.out=o->(∀M,o=some M->lr=kY M q.mr/\lo=jY ids M q.mo)->(PC.block id lr lo q.pc).ev Z N O=some x->
        Exit.inBlock id (iu C w0 σ0 ids fn s rm wr a o (q.ex.filter λx=> !Nat.beq x.1 id) x) e a' w':=by
  intro o lr lo ho hl bL;simp only[PC.ev] at bL;rw[dM] at bL
  have fin:∀{ρ1:Env} {a':Act} {w':World},(∃M,o=some M/\Good C w0 σ0 (M.st ids) ρ1 (λ_=>False) a' w')->xi.env?=some ρ1->x=.next (O.join lr lo ρ1)->SameBut wr a a'->
   iu C w0 σ0 ids fn s rm wr a o (q.ex.filter λx=> !Nat.beq x.1 id) x .normal a' w':=by
        intro ρ1 a' w' hM yG hx dU;obtain⟨M,hM,uP⟩:=hM;obtain⟨l1,l2⟩:=hl M hM;subst l1 l2;exact⟨_,M,hx,hM,dU,uP.joined (PC.ev_but q.pc O _ ρ1 dM yG) tq.1 tq.2⟩
  cases e with
  |normal=>
   obtain⟨ρ1,S2,e1,e2,dU,iz⟩:=fW;subst e1;simp only[aZ] at bL;refine fin ?_ rfl bL.symm dU;rw[e2] at ho;obtain⟨M,h1,h2⟩:=MB (id:=id) q.ex iz;rw[ho] at h1;exact⟨M,h1,h2⟩
  |exit bP=>
   obtain⟨ρ1,S2,e1,e0,e2,dU,iz⟩:=fW;subst e1;simp only at bL;show if bP=id then _ else _;by_cases cL:bP=id
   .subst cL;simp only[ki,zyy,aZ] at bL;simp only[if_true];refine fin ?_ rfl bL.symm dU;rw[<-ho];exact TQ iz q.ex q.out e2
   .simp only[fy cL,zyx,aZ] at bL;subst bL;simp only[cL,if_false];exact⟨ρ1,S2,rfl,e0,FC _ _ e2 cL,dU,iz⟩
  |ret=>
   cases rm with
   |false=>
    have hy:=fW;obtain⟨d,e1,_⟩:=hy;subst e1;simp only[aZ] at bL;subst bL;exact fW
   |true=>
    obtain⟨ρ1,S2,e1,e2,dU,iz⟩:=fW;subst e1;simp only[fy (λe=>LN e.symm:cP≠id),zyx,aZ] at bL;subst bL;exact⟨ρ1,S2,rfl,FC _ _ e2 (λe=>LN e.symm),dU,iz⟩
  |_=>exact fW.elim
 unfold gS at bL ⊢;cases hm:qm id q.ex q.out with
 |none=>
  simp only[hm] at bL ⊢;exact main none [] [] hm (λM e=>by cases e) bL
 |some M=>
  simp only[hm] at bL ⊢;exact main (some M) _ _ hm (λM' e=>by cases e;exact⟨rfl,rfl⟩) bL
def abb {N id:Nat}{q:Res2}{x:Out}(bL:(gS ids id q).pc.ev Z N O=some x):∃xi,q.pc.ev Z N O=some xi:=by
 unfold gS at bL;cases hm:qm id q.ex q.out<;>simp only[hm,PC.ev] at bL<;>cases dM:q.pc.ev Z N O<;>first|exact⟨_,rfl⟩|(rw[dM] at bL;cases bL)
def ai9 {es:List (D×D)}{idx:List Nat}(hn:idx.Nodup)(af:∀i,i∈idx->i<es.length)(aK:∀i,i<es.length->i∈idx):(ib es idx).Perm (ji (.map es)):=by
 have h1:idx.Perm (List.range es.length):=by
  rw[List.perm_ext_iff_of_nodup hn aaC];intro i;rw[fu];exact⟨af i,aK i⟩
 have h2:ib es (List.range es.length)=ji (.map es):=by
  refine Pm (by simp[ib,ji,D.m]) λi g1 g2=>?_;have hi:i<es.length:=by simpa [ib] using g1
  simp[ib,ji,D.m,aU hi]
 rw[<-h2];exact h1.map _
def aw8 {es:List (D×D)}{idx:List Nat}(hn:idx.Nodup)(af:∀i,i∈idx->i<es.length):∃rest,(ib es idx++rest).Perm (ji (.map es)):=by
 refine⟨ib es ((List.range es.length).filter λi=> !idx.contains i),?_⟩;have e:ib es idx++ib es ((List.range es.length).filter λi=> !idx.contains i)=ib es (idx++(List.range es.length).filter λi=> !idx.contains i):=by simp[ib]
 rw[e];refine ai9 ?_ (λi hi=>?_) (λi hi=>?_)
 .rw[I1];refine⟨hn,aaC.filter _,λa ha b hb e=>?_⟩;subst e;have:=(eR.1 hb).2;simp[ha] at this
 .rcases dC.1 hi with h|h
  .exact af i h
  .exact fu.1 (eR.1 h).1
 .by_cases h:i∈idx
  .exact iT _ h
  .exact jG _ (eR.2 ⟨fu.2 hi,by simp[h]⟩)
def aja (es:List (D×D))(idx:List Nat){i:Nat}{p:D×D}(h:es[i]?=some p):ib es (idx++[i])=ib es idx++[.tup [p.1,p.2]]:=by simp[ib,h]
def auk {N:Nat}{x y z code:Code}{k:Nat}{p:MP}(hp:CE x y k z=some p)(ihc:xX C Z fn s n ids R N code){rm:Bool}{S:Snap}{r:Res2}
 (hr:CF ids n p (cD x++(cD y++(cD z++cD code))) (λS=>comp C fn s n ids R rm code S) S=some r) {rd:Option Nat} {wr:Nat->Prop} {x0:Out} (gz:rm=false->rd=none/\σ0.fin) (hC:CtxOK C σ0) (hY:uv C Z w0 σ0)
 (gC:∀t,t∈cD (.loop (.seq x (.seq y (.block k (.seq z code)))))->wr t) (hn:a.tmps.size=n) (hg:Good C w0 σ0 (S.st ids) O (λ_=>False) a w) (he:r.pc.ev Z N O=some x0):
 (Code.loop (.seq x (.seq y (.block k (.seq z code))))).wpIn (FR rd) 0 C.P (iu C w0 σ0 ids fn s rm wr a r.out r.ex x0) a w:=by
 obtain⟨i1,i2,o1,o2,o3,l,rfl,rfl,rfl,hk,e1,e2,d1,g1,q1,d2,g2,q2,d3,g3,q3,oN,n1,n2,n3,n4,n5,n6⟩:=aui hp;subst hk;unfold CF at hr;split at hr
 case h_2=>cases hr;exact absurd he (nF _ _ _ _)
 rename_i J hJ;split at hr
 case h_2=>cases hr;exact absurd he (nF _ _ _ _)
 rename_i kt et LR;simp only at hr;split at hr
 case h_2=>cases hr;exact absurd he (nF _ _ _ _)
 rename_i q hq;rw[qN] at hr;split at hr
 case isFalse=>cases hr;exact absurd he (nF _ _ _ _)
 rename_i yE;cases hr;generalize Me:cD (.region i1 p.ops1 false)++(cD (.cond (.tmp p.mo) .skip (.exit p.out))++(cD (.region i2 p.ops2 false)++cD code))=ws at*;simp only[ao,kK] at yE;obtain⟨⟨⟨⟨⟨⟨⟨⟨c1,c2⟩,c3⟩,c4⟩,c5⟩,c6⟩,c7⟩,c8⟩,c9⟩:=yE;have hex:q.2.ex=[]:=aay.1 c1;have acI:J∉q.2.mo:=λh=>by rw[(rW _ _).2 h] at c2;cases c2
 simp only[aev,ao,kK] at c3;obtain⟨⟨c3a,c3b⟩,c3c⟩:=c3;have arz:q.1.rs.getD p.it .none=.obj J 0:=Sh.beq_eq _ _ c3a;have LZ:dy ids q.1.os J=.it kt et:=Ob.beq_eq _ _ c3b;have ars:∀t,t∈p.aa.map (·.1)->t<n:=λt ht=>by have:=cN.1 c5 t ht;rwa [pC] at this
 have Sy:p.nx<n:=by rwa [pC] at c6
 have Sl:p.mo<n:=by rwa [pC] at c7
 have rO:p.pr<n:=by rwa [pC] at c8
 have FU:=ay c9;obtain⟨hs,B8,bO⟩:=Gw (C:=C) (w0:=w0) (σ0:=σ0) (ids:=ids) 8 hq;simp only[aB] at hs;obtain⟨q0,tz,gY⟩:=hs;obtain⟨qS,qR⟩:=q;simp only at*;subst gY;generalize hm:zk ws=m at*;generalize p6:jY ids qS (gS ids p.next q0).mo=lo at*;have Sn:=abc (ids:=ids) (id:=p.next) (vK code tz);have aqR:∀j,j∈lo->j∈(gS ids p.next q0).mo:=λj hj=>by rw[<-p6] at hj;exact CG hj
 have aFA:J∉lo:=λh=>acI (aqR J h);have F7:∃DF,Nb ((gS ids p.next q0).pc.ev Z N) O J (p.aa.map (·.1)) (p.aa.map (·.2)) lo DF/\x0=.exit p.out (O.put [] [] lo DF):=by
  simp only[PC.ev] at he;cases rO:Nc ((gS ids p.next q0).pc.ev Z N) O J (p.aa.map (·.1)) (p.aa.map (·.2)) lo with
  |none=>rw[rO] at he;cases he
  |some y=>
   obtain⟨DF,h1,rfl⟩:=CU.1 rO;rw[rO] at he;simp only[aZ] at he;exact⟨DF,h1,he.symm⟩
 obtain⟨DF,⟨F2,apL⟩,hx0⟩:=F7;generalize jT:(O.o J).tget 1=es at*
 have je:∀o,o∈p.ops1.toList->∀d,o.dst=some d->d∈ws:=λo ho d hd=>by
  rw[<-Me];exact iT _ (Ar.2 ⟨o,ho,hd⟩)
 have cZ:∀o,o∈p.ops2.toList->∀d,o.dst=some d->d∈ws:=λo ho d hd=>by
  rw[<-Me];exact jG _ (jG _ (iT _ (Ar.2 ⟨o,ho,hd⟩)))
 have hwc:∀d,d∈cD code->d∈ws:=λd hd=>by
  rw[<-Me];exact jG _ (jG _ (jG _ hd))
 have Ti:∀t,t∈ws->wr t:=λt ht=>gC t (by rw[<-Me] at ht;exact ht);have uX:∀t,t∈ws->aR m t=true:=λt ht=>by rw[<-hm];exact aa9 ht
 have Sk:∀t,aR m t=true->((qS.mask m).st ids).r t=.none:=λt ht=>by rw[GG,if_pos ht]
 have aqY:∀t,isNone (((qS.mask m).st ids).r t)=false->aR m t=false:=λt ht=>by
  cases hb:aR m t with
  |false=>rfl
  |true=>rw[Sk t hb] at ht;cases ht
 have jV:((qS.mask m).st ids).r p.it=.obj J 0:=by
  rw[GG,c3c];show cJ (qS.rs.getD p.it .none)=_;rw[arz];rfl
 have cR:((qS.mask m).st ids).o J=.it kt et:=LZ;have kB:p.ops1[0]?=some o1:=by rw[<-py,e1];rfl
 have fI:p.ops1[1]?=some o2:=by rw[<-py,e1];rfl
 have ho3:p.ops2[0]?=some o3:=by rw[<-py,e2];rfl
 have arW:List.range p.ops1.size=[0,1]:=by
  have:p.ops1.size=2:=by rw[<-Ag,e1];rfl
  rw[this];rfl
 have wv:List.range p.ops2.size=0::List.range' 1 (p.ops2.size-1):=by
  have:p.ops2.size=l.length+1:=by rw[<-Ag,e2];rfl
  rw[this,Ps,Pr];rfl
 have key:∀(kk:Nat) (done vo:List D) (a':Act) (w':World),SameBut wr a a'->Good C w0 σ0 ((qS.mask m).st ids) ((O.put [] [] lo vo).setO J (.tup [.list done,es])) (λ_=>False) a' w'->
  (∀ys,(done++ys).Perm (ji es)->qt ((gS ids p.next q0).pc.ev Z N) O J es (p.aa.map (·.1)) (p.aa.map (·.2)) lo ys done vo=some DF)->done.length+kk=(ji es).length+1->
  Code.roundsIn (FR rd) 0 C.P (.seq (.region i1 p.ops1 false) (.seq (.cond (.tmp p.mo) .skip (.exit p.out)) (.block p.next (.seq (.region i2 p.ops2 false) code)))) (iu C w0 σ0 ids fn s rm wr a none [(p.out,(qS.mask m).kill ids J)] x0) kk a' w':=by
  intro kk
  induction kk with
  |zero=>
   intro done vo a' w' _ lF _ hlen;exfalso;obtain⟨V,own,hv,h⟩:=lF;have bj:=h.objs J;rw[cR] at bj;obtain⟨kb,mb,arr,clock,fT,idx,h1,h2,h3,au,h4,h5,h6,h7,h8,h9,jt,uL⟩:=bj;simp only[Env.setO,aN] at h6;injection h6 with h6;injection h6 with yz yA;injection yA with yA _;injection yz with yz;subst yz;subst yA;have hle:idx.length<=arr.size:=by
        have:=List.Nodup.length_le_of_subset h7 (l₂:=List.range arr.size) (λi hi=>fu.2 (h8 i hi));simpa using this
   simp[ib,ji,D.m] at hlen;omega
  |succ kk ih=>
   intro done vo a' w' kS lF aK hlen;rw[roundsIn_succ];obtain⟨V,own,hv,h⟩:=lF;have bj:=h.objs J;rw[cR] at bj;obtain⟨kb,mb,arr,clock,fT,idx,h1,h2,h3,au,h4,h5,h6,h7,h8,h9,jt,uL⟩:=bj;simp only[Env.setO,aN] at h6;injection h6 with h6;injection h6 with yz yA;injection yA with yA _;injection yz with yz;subst yz;subst yA;have gy:=h.regs p.it;rw[jV] at gy;have LO:a'.eval (.tmp p.it)=.pointer (some ⟨kb,0,none⟩):=by
        have:=gy.2 rfl;simp only[Act.eval];rw[this];exact h1
   have wu:a'.tmps.size=n:=kS.size.trans hn;obtain⟨w1,aeb,LY⟩:=auv (P:=C.P) h5 h4 jt h8 o1.type;have Gl:Below w'.heap.size w' w1:=by rcases aeb with rfl|rfl;exact .refl _ _;exact⟨rfl,rfl,rfl,aX _,λ_ _=>rfl⟩
   have Cr:w1.heap=w'.heap:=by rcases aeb with rfl|rfl<;>rfl
   have Sc:kb<w'.heap.size:=(h.owns kb J h2).2.1;have rK:mb<w'.heap.size:=(h.owns mb J h3).2.1;refine wpIn_seq (wpIn_region ?_);rw[arW];rcases LY with⟨R5,ak⟩|⟨i,e,uS,yK,ak⟩
   ·
        refine CP kB g1 (by rw[q1];rfl) (v:=.tuple #[.bool false]) (w':=w1) (by simp only[execOp,q1,LO];simp[ak]) ?_;rw[d1]
        refine CP fI g2 (by rw[q2];rfl) (v:=.bool false) (w':=w1) (by
         have:(a'.put (some p.nx) (.tuple #[.bool false])).eval (.tmp p.nx)=.tuple #[.bool false]:=by simp only[Act.eval];exact CX (by omega)
         simp only[execOp,q2,this];simp[Instr.extract]) ?_
        rw[d2];simp only[wpOpsIn]
        have yZ:SameBut (λt=>t∈ws) a' ((a'.put (some p.nx) (.tuple #[.bool false])).put (some p.mo) (.bool false)):=by
         have s1:=SameBut.put a' (some p.nx) (.tuple #[.bool false]) a'.defers;have s2:=SameBut.put (a'.put (some p.nx) (.tuple #[.bool false])) (some p.mo) (.bool false) (a'.put (some p.nx) (.tuple #[.bool false])).defers;exact(s1.mono λt e=>by cases e;exact je o1 (by rw[e1];simp) _ d1).trans (s2.mono λt e=>by cases e;exact je o2 (by rw[e1];simp) _ d2)
        generalize yC:(a'.put (some p.nx) (.tuple #[.bool false])).put (some p.mo) (.bool false)=a1 at yZ;have Sm:a1.eval (.tmp p.mo)=.bool false:=by
         rw[<-yC];simp only[Act.eval];exact CX (by rw[size_put];omega)
        have pY:a1.defers=a'.defers:=by rw[<-yC,put_defers,put_defers]
        refine wpIn_seq (wpIn_cond_false Sm (wpIn_exit ?_));have yU:(ib fT idx++[]).Perm (ji (.map fT)):=by
         rw[um];exact ai9 h7 (λi hi=>by rw[h9];exact h8 i hi) (λi hi=>R5 i (by omega))
        have aea:=aK [] yU;simp only[qt,aZ] at aea;subst aea;refine⟨_,_,hx0,n5,vA.2 rfl,kS.trans (yZ.mono Ti),?_⟩;refine⟨V,own,hv,?_⟩
        refine h.step (S':=((qS.mask m).kill ids J).st ids) (O':=O.put [] [] lo vo) (A':=λ_=>False) (λj=>j=J) pY (.refl V) (h.ok.below Gl) (λ_ _ _ hx=>.inl hx) (λ_ _ hx=>.inl hx) (Gl.mono h.below.size) ⟨λ_=>aX _,λ_ _=>rfl⟩
         (λj hj=>⟨by rw[TB,if_neg hj],by simp[Env.setO,bB _ _ hj],rfl,λb hb=>⟨hb,by rw[Cr]⟩⟩) (λj hj=>?_) (λb j hb=>?_) (λ_=>id) (λt=>?_) (λ_ hf=>hf.elim) (λb hb _=>by rw[Cr]) (λb j hb=>.inl ⟨j,hb⟩) (λj hj=>?_)
        .rw[TB,if_pos hj];trivial
        .obtain⟨b1,b2,b3,b4⟩:=h.owns b j hb;exact⟨b1,by rw[Cr];exact b2,b3,b4⟩
        .by_cases ht:t∈ws
         .refine .inr ⟨?_,λgs s' e=>absurd e (Snap.noOpt _ _ t gs s')⟩;have:(((qS.mask m).kill ids J).st ids).r t=.none:=Sk t (uX t ht);rw[this];trivial
         .exact .inl ⟨rfl,yZ.get t ht,rfl⟩
        .rw[TB,if_pos hj];intro e;cases e
   ·
        obtain⟨pd,SJ⟩:∃pd,fT[i]?=some pd:=⟨_,aU (by rw[h9];exact(ed.1 uS).1)⟩
        obtain⟨bD,cE⟩:=uL i e pd uS SJ;generalize Cs:({w1 with heap:=w1.heap.setIfInBounds kb (.mapIter (some mb) clock (gJ arr (idx++[i])) clock)}:World)=w2 at ak;have aec:w2.heap[kb]?=some (.mapIter (some mb) clock (gJ arr (idx++[i])) clock):=by rw[<-Cs];simp[Cr,Sc]
        have y6:∀b,b≠kb->w2.heap[b]?=w'.heap[b]?:=λb hb=>by rw[<-Cs];simp only[Cr];rw[aad (vC hb)]
        have aGp:w2.heap.size=w'.heap.size:=by rw[<-Cs];simp[Cr]
        have aed:w2.heap[mb]?=some (.map arr clock):=by rw[y6 mb (vC au)];exact h4
        refine CP kB g1 (by rw[q1];rfl) (v:=.tuple #[.bool true,e.key,e.val]) (w':=w2) (by simp only[execOp,q1,LO];simp[ak]) ?_;rw[d1]
        refine CP fI g2 (by rw[q2];rfl) (v:=.bool true) (w':=w2) (by
         have:(a'.put (some p.nx) (.tuple #[.bool true,e.key,e.val])).eval (.tmp p.nx)=.tuple #[.bool true,e.key,e.val]:=by simp only[Act.eval];exact CX (by omega)
         simp only[execOp,q2,this];simp[Instr.extract]) ?_
        rw[d2];simp only[wpOpsIn]
        have yZ:SameBut (λt=>t∈ws) a' ((a'.put (some p.nx) (.tuple #[.bool true,e.key,e.val])).put (some p.mo) (.bool true)):=by
         have s1:=SameBut.put a' (some p.nx) (.tuple #[.bool true,e.key,e.val]) a'.defers;have s2:=SameBut.put (a'.put (some p.nx) (.tuple #[.bool true,e.key,e.val])) (some p.mo) (.bool true) (a'.put (some p.nx) (.tuple #[.bool true,e.key,e.val])).defers;exact(s1.mono λt e=>by cases e;exact je o1 (by rw[e1];simp) _ d1).trans (s2.mono λt e=>by cases e;exact je o2 (by rw[e1];simp) _ d2)
        have adq:(((a'.put (some p.nx) (.tuple #[.bool true,e.key,e.val])).put (some p.mo) (.bool true))).eval (.tmp p.it)=.pointer (some ⟨kb,0,none⟩):=by
         simp only[Act.eval] at LO ⊢;rw[Ni n2,Ni n1];exact LO
        generalize yC:(a'.put (some p.nx) (.tuple #[.bool true,e.key,e.val])).put (some p.mo) (.bool true)=a1 at yZ adq;have Sm:a1.eval (.tmp p.mo)=.bool true:=by
         rw[<-yC];simp only[Act.eval];exact CX (by rw[size_put];omega)
        have pY:a1.defers=a'.defers:=by rw[<-yC,put_defers,put_defers]
        refine wpIn_seq (wpIn_cond_true Sm (wpIn_skip ?_));refine wpIn_block (wpIn_seq (wpIn_region ?_));rw[wv];refine CP ho3 g3 (by rw[q3];rfl) (v:=.tuple #[e.key,e.val]) (w':=w2) (by simp only[execOp,q3,adq];simp[anG aec aed jt uS]) ?_;rw[d3]
        have hs3:SameBut (λt=>t∈ws) a1 (a1.put (some p.pr) (.tuple #[e.key,e.val])):=
         (SameBut.put a1 (some p.pr) (.tuple #[e.key,e.val]) a1.defers).mono λt e=>by cases e;exact cZ o3 (by rw[e2];simp) _ d3
        have ad2:a1.tmps.size=n:=yZ.size.trans wu;refine ahC (kv:=e.key) (vv:=e.val) l [] p.aa 1 _ oN (by rw[e2];rfl) (λx hx=>by rw[hs3.size,ad2];exact ars _ (cr.2 ⟨x,hx,rfl⟩)) (CX (by rw[ad2];exact rO)) (λx hx=>by cases hx) (λa2 dU dD arn=>?_);have SX:SameBut (λt=>t∈ws) a' a2:=(yZ.trans hs3).trans (dU.mono λt ⟨o,ho,hd⟩=>cZ o ho t hd);have ap7:a2.defers=a'.defers:=by rw[dD,put_defers,pY]
        have arT:Good C w0 σ0 (((qS.mask m).start (p.aa.map (·.1)) (p.aa.map λx=>bif Nat.beq x.2 0 then kt else et)).st ids) ((O.put (p.aa.map (·.1)) ((p.aa.map (·.2)).map (D.tup [pd.1,pd.2]).tget) lo vo).setO J (.tup [.list (ib fT idx++[.tup [pd.1,pd.2]]),.map fT])) (λ_=>False) a2 w2:=by
         have Ft:Below w0.heap.size w' w2:=⟨by rw[<-Cs];exact Gl.os,by rw[<-Cs];exact Gl.tape,by rw[<-Cs];exact Gl.output,by omega,λb hb=>y6 b (λe=>by subst e;have:=(h.owns b J h2).1;omega)⟩
         have kC:V.ok w2:=by
          refine⟨λb o v hc=>?_,λb es hc=>?_,h.ok.fz λb o v hc=>y6 b λe=>by subst e;rw[(h.owns b J h2).2.2.1 o] at hc;cases hc⟩
          .have ja:b≠kb:=λe=>by subst e;rw[(h.owns b J h2).2.2.1 o] at hc;cases hc
           have:=h.ok.c b o v hc;simp only[World.cell?] at this ⊢;rw[y6 b ja];exact this
          .have ja:b≠kb:=λe=>by subst e;rw[(h.owns b J h2).2.2.2] at hc;cases hc
           exact(h.ok.m b es hc).keep (y6 b ja)
         have fW:∀j,((O.put (p.aa.map (·.1)) ((p.aa.map (·.2)).map (D.tup [pd.1,pd.2]).tget) lo vo).setO J (.tup [.list (ib fT idx++[.tup [pd.1,pd.2]]),.map fT])).o j=if j=J then .tup [.list (ib fT idx++[.tup [pd.1,pd.2]]),.map fT] else putL O.o lo vo j:=λj=>by
          simp only[Env.setO,fp];rfl
         refine⟨V,own,hv,h.step (λj=>j=J) ap7 (.refl V) kC (λ_ _ _ hx=>.inl hx) (λ_ _ hx=>.inl hx) Ft ⟨λ_=>aX _,λ_ _=>rfl⟩
          (λj hj=>⟨rfl,by rw[fW,if_neg hj];simp[Env.setO,bB _ _ hj,Env.put],rfl,λb hb=>⟨hb,y6 b (λe=>by subst e;rw[h2] at hb;cases hb;exact hj rfl)⟩⟩) (λj hj=>?_) (λb j hb=>?_) (λ_=>id) (λt=>?_) (λ_ hf=>hf.elim)
          (λb hb ho=>y6 b (λe=>by subst e;rw[h2] at ho;cases ho)) (λb j hb=>.inl ⟨j,hb⟩) (λj hj=>?_)⟩
         .subst hj;have:(((qS.mask m).start (p.aa.map (·.1)) (p.aa.map λx=>bif Nat.beq x.2 0 then kt else et)).st ids).o j=.it kt et:=LZ;rw[this];refine⟨kb,mb,arr,clock,fT,idx++[i],h1,h2,h3,au,aed,aec,by rw[fW,if_pos rfl,aja fT idx SJ],?_,?_,h9,jt,uL⟩
          .rw[I1];exact⟨h7,by simp,λa ha b hb e=>by simp at hb;subst hb;subst e;exact yK ha⟩
          .intro i' df;rcases dC.1 df with h|h
           .exact h8 i' h
           .simp at h;subst h;exact(ed.1 uS).1
         .obtain⟨b1,b2,b3,b4⟩:=h.owns b j hb;exact⟨b1,by omega,b3,b4⟩
         .have hc:Compat ((qS.mask m).st ids) hv (((qS.mask m).start (p.aa.map (·.1)) (p.aa.map λx=>bif Nat.beq x.2 0 then kt else et)).st ids) hv:=⟨λ_=>aX _,λ_ _=>rfl⟩
          refine .inr ⟨?_,λgs s' e=>absurd e (Snap.noOpt _ _ t gs s')⟩;show aG C _ _ V hv (cJ ((tY (p.aa.map (·.1)) (p.aa.map λx=>bif Nat.beq x.2 0 then kt else et) ((qS.mask m).rs.map uT)).getD t .none)) (a2.tmps.getD t undef) (putL O.r (p.aa.map (·.1)) ((p.aa.map (·.2)).map (D.tup [pd.1,pd.2]).tget) t);rcases WV (p.aa.map (·.1)) (p.aa.map λx=>bif Nat.beq x.2 0 then kt else et) ((qS.mask m).rs.map uT) (by simp) c4 t with e|⟨mV,sS⟩|⟨i',y,mV,sS,EK⟩
          .rw[e];trivial
          .rw[sS,CW _ _ _ _ mV];have e3:((qS.mask m).rs.map uT).getD t .none=uT ((qS.mask m).rs.getD t .none):=by
            simp only[aE,bX];cases(qS.mask m).rs[t]?<;>rfl
           rw[e3];by_cases htw:t∈ws
           .have Cf:=Sk t (uX t htw);change cJ ((qS.mask m).rs.getD t .none)=.none at Cf;generalize (qS.mask m).rs.getD t .none=s' at Cf;cases s'<;>simp[cJ] at Cf<;>trivial
           .have hr:=h.regs t;change aG C _ _ V hv (cJ ((qS.mask m).rs.getD t .none)) _ (O.r t) at hr;rw[SX.get t htw];generalize (qS.mask m).rs.getD t .none=s' at hr;cases s' with
            |yv=>trivial
            |opt gs s=>trivial
            |none=>trivial
            |fclo f c=>exact aG.mono' (.refl V) hc (λ_ _ e=>by cases e) hr
            |agg l=>exact aG.mono' (.refl V) hc (λ_ _ e=>by cases e) hr
            |dat t=>exact hr
            |obj j v=>exact aG.mono' (.refl V) hc (λ_ _ e=>by cases e) hr
            |ptr j v o=>exact aG.mono' (.refl V) hc (λ_ _ e=>by cases e) hr
            |eptr j v o q=>exact aG.mono' (.refl V) hc (λ_ _ e=>by cases e) hr
          .rw[EK];have aqz:i'<p.aa.length:=by have:=(eu.1 mV).1;simpa using this
           rw[Vf _ (p.aa.map (·.1)) _ i' t (qn c4) (by simp) mV];obtain⟨xa,nj⟩:∃xa,p.aa[i']?=some xa:=⟨_,aU aqz⟩
           simp only[bX,nj,kj,aZ] at mV sS;subst mV;subst sS;rw[arn xa (kh nj)];have hd:((p.aa.map (·.2)).map (D.tup [pd.1,pd.2]).tget).getD i' .none=(D.tup [pd.1,pd.2]).tget xa.2:=by simp[aE,nj]
           rw[hd];have h2x:xa.2<=1:=by
            rcases U6 l oN (λx hx=>by cases hx) xa (kh nj) with h|h
            .cases h
            .exact h.1
           rcases(by omega:xa.2=0\/xa.2=1) with e0|e0<;>rw[e0]
           .exact bD
           .exact cE
         .have:(((qS.mask m).start (p.aa.map (·.1)) (p.aa.map λx=>bif Nat.beq x.2 0 then kt else et)).st ids).o j=.it kt et:=by rw[hj];exact LZ
          rw[this];intro e;cases e
        have aro:=aja fT idx SJ;obtain⟨rest,tB⟩:∃rest,(ib fT idx++(D.tup [pd.1,pd.2])::rest).Perm (ji (.map fT)):=by
         obtain⟨rest,hr⟩:=aw8 (es:=fT) (idx:=idx++[i]) (by rw[I1];exact⟨h7,by simp,λa ha b hb e=>by simp at hb;subst hb;subst e;exact yK ha⟩) (λi' df=>by
          rcases dC.1 df with h|h
          .rw[h9];exact h8 i' h
          .simp at h;subst h;rw[h9];exact(ed.1 uS).1)
         rw[aro] at hr;exact⟨rest,by simpa using hr⟩
        have gu:=aK _ tB;simp only[qt] at gu;split at gu
        case h_2=>cases gu
        rename_i ρ2 LD;obtain⟨xi,dM⟩:=abb LD;refine wpIn_mono (ihc rm _ q0 tz rd w0 σ0 wr _ xi a2 w2 gz hC hY (λt ht=>Ti t (hwc t ht)) (SX.size.trans wu) arT dM) λee a3 w3 fW=>?_;have rN:=abd n6 (vK code tz) dM LD fW;have conv:∀ee a3 w3,iu C w0 σ0 ids fn s rm wr a2 (gS ids p.next q0).out (gS ids p.next q0).ex (.next ρ2) ee a3 w3->Exit.then (Code.roundsIn (FR rd) 0 C.P (.seq (.region i1 p.ops1 false) (.seq (.cond (.tmp p.mo) .skip (.exit p.out)) (.block p.next (.seq (.region i2 p.ops2 false) code)))) (iu C w0 σ0 ids fn s rm wr a none [(p.out,(qS.mask m).kill ids J)] x0) kk) (iu C w0 σ0 ids fn s rm wr a none [(p.out,(qS.mask m).kill ids J)] x0) ee a3 w3:=by
         intro ee a3 w3 ho;cases ee with
         |normal=>
          obtain⟨ρ3,T,f1,f2,f3,f4⟩:=ho;cases f1;refine ih (ib fT idx++[.tup [pd.1,pd.2]]) (lo.map ρ2.o) a3 w3 (kS.trans ((SX.mono Ti).trans f3)) ?_ (λys oQ=>?_) (by simp at hlen ⊢;omega)
          .have uP:Good C w0 σ0 (qS.st ids) ρ2 (λ_=>False) a3 w3:=by
            have:=f4.meet2 (x:=qS)
            rwa [B8 T f2] at this
           obtain⟨σ3,zx,Gi,fD⟩:=uP;have RS:=PC.ev_but _ _ _ ρ2 LD rfl;refine⟨σ3,zx,Gi,(fD.maskR m).env (Snap.noOpt _ _) (λt ht=>?_) (λj hj=>?_)⟩
           .have Cf:=aqY t ht
            have cQ:t∉(gS ids p.next q0).pc.modR:=λfG=>by
                 have:=Sn.1 t fG;have h2:aR (Nat.lor m (gS ids p.next q0).mr) t=true:=by rw[gR,this,uj]
                 rw[FU,Cf] at h2;cases h2
            rw[RS.r t cQ]
            have tu:t∉p.aa.map (·.1):=λaV=>by
                 have:aR m t=true:=by
                  refine uX t ?_;obtain⟨xa,nj,rfl⟩:=cr.1 aV;rcases U6 l oN (λx hx=>by cases hx) xa nj with h|⟨_,o,ho,hd⟩
                  .cases h
                  .exact cZ o (by rw[e2];exact fq _ ho) _ hd
                 rw[Cf] at this;cases this
            show O.r t=putL O.r (p.aa.map (·.1)) _ t;rw[CW _ _ _ _ tu]
           .have hjd:qh (dy ids qS.os j)=false:=hj;show bW (putL O.o lo (lo.map ρ2.o)) J _ j=ρ2.o j;by_cases Cc:j=J
            .subst Cc;rw[aN,RS.o j (λfG=>acI (Sn.2 j fG))];simp[Env.setO,aN]
            .rw[bB _ _ Cc,ve];split
             .rfl
             .rename_i fF;have cQ:j∉(gS ids p.next q0).pc.modO:=λfG=>fF (by rw[<-p6];exact eR.2 ⟨Sn.2 j fG,by rw[hjd];rfl⟩);rw[RS.o j cQ];simp only[Env.setO,bB _ _ Cc];exact(Vg _ _ _ _ fF).symm
          .have:=aK ((D.tup [pd.1,pd.2])::ys) (by simpa using oQ);simp only[qt,LD] at this;exact this
         |exit id=>obtain⟨ρ3,T,f1,_⟩:=ho;cases f1
         |ret=>
          cases rm with
          |false=>obtain⟨d,f1,_⟩:=ho;cases f1
          |true=>obtain⟨ρ3,T,f1,_⟩:=ho;cases f1
         |_=>exact ho.elim
        cases ee with
        |exit id=>
         simp only[Exit.inBlock] at rN;show if id=p.next then _ else _;split
         .rename_i cL;rw[if_pos cL] at rN;exact conv .normal a3 w3 rN
         .rename_i cL;rw[if_neg cL] at rN;exact conv (.exit id) a3 w3 rN
        |normal=>exact conv .normal a3 w3 rN
        |ret=>exact conv .ret a3 w3 rN
        |panic c=>exact fW.elim
        |goto l=>exact fW.elim
        |_=>exact fW.elim
 have hgq:Good C w0 σ0 (qS.st ids) O (λ_=>False) a w:=bO hg;obtain⟨V,own,hv,h⟩:=hgq;have bj:=h.objs J;have:(qS.st ids).o J=.it kt et:=LZ;rw[this] at bj;obtain⟨kb,mb,arr,clock,fT,idx,h1,h2,h3,au,h4,h5,h6,h7,h8,h9,jt,uL⟩:=bj;have hρJ:O.o J=.tup [.list [],es]:=by
  rw[h6] at F2 jT;simp[D.tget] at F2 jT;rw[h6,F2,<-jT]
 have yG:(O.put [] [] lo (lo.map O.o)).setO J (.tup [.list [],es])=O:=by
  rw[Env.put_self];show Env.mk _ _=_;have:bW O.o J (.tup [.list [],es])=O.o:=by
   funext j;rw[fp];split
   .rename_i e;rw[e];exact hρJ.symm
   .rfl
  rw[this]
 exact wpIn_loop_rounds _ (key ((ji es).length+1) [] (lo.map O.o) a w (.refl _ _) (by rw[yG];exact⟨V,own,hv,h.maskR m⟩) (λys oQ=>apL ys oQ) (by simp))
def amh {N:Nat}(dv:gP C Z)(hR:Pz C n ids Z R):∀(k:Nat) (c:Code),sizeOf c<k->xX C Z fn s n ids R N c:=by
 intro k;refine Nat.rec (λc h=>absurd h (Nat.not_lt_zero _)) (λk IH=>?_) k;intro c hc;cases c with
 |skip=>
  intro rm S r h rd w0 σ0 wr O x a w gz hC hY gC hn hg he;simp only[comp,aZ] at h;subst h;simp only[PC.ev,aZ] at he;subst he;exact wpIn_skip ⟨O,S,rfl,rfl,.refl _ _,hg⟩
 |region id ops draw=>
  intro rm S r h rd w0 σ0 wr O x a w gz hC hY gC hn hg he;simp only[comp,aB] at h;obtain⟨q,hq,rfl⟩:=h;simp only[PC.ev,aB] at he;obtain⟨O',hr,rfl⟩:=he;exact hR id ops draw S q hq rd w0 σ0 O O' a w _ hC hY hn hg hr (λa' w' eh lF=>⟨O',q.1,rfl,rfl,eh.mono (λt ⟨o,h1,h2⟩=>gC t (Ar.2 ⟨o,h1,h2⟩)),lF⟩)
 |seq c1 c2=>
  have wB:=IH c1 (by simp at hc;omega);have wC:=IH c2 (by simp at hc;omega);intro rm S r h rd w0 σ0 wr O x a w gz hC hY gC hn hg he;have je:∀t,t∈cD c1->wr t:=λt ht=>gC t (iT _ ht);have cZ:∀t,t∈cD c2->wr t:=λt ht=>gC t (jG _ ht);simp only[comp,az] at h;obtain⟨q,hq,h⟩:=h;split at h
  .rename_i kR;cases h;refine wpIn_seq (wpIn_mono (wB rm S _ hq rd w0 σ0 wr O x a w gz hC hY je hn hg he) λe a' w' ho=>?_);cases e with
   |normal=>obtain⟨_,_,_,h2,_⟩:=ho;rw[kR] at h2;cases h2
   |_=>exact ho
  .rename_i S1 kR;simp only[aB] at h;obtain⟨p,hp,rfl⟩:=h;simp only[PC.ev] at he
   have key:∀x1,q.pc.ev Z N O=some x1->(match some x1 with|some (.next O')=>p.pc.ev Z N O'|y=>y)=some x->(Code.seq c1 c2).wpIn (FR rd) 0 C.P (iu C w0 σ0 ids fn s rm wr a p.out (q.ex++p.ex) x) a w:=by
      intro x1 h1 h2;refine wpIn_seq (wpIn_mono (wB rm S _ hq rd w0 σ0 wr O x1 a w gz hC hY je hn hg h1) λe a' w' ho=>?_);have other:∀{e:Exit},e≠.normal->iu C w0 σ0 ids fn s rm wr a q.out q.ex x1 e a' w'->x1=x->iu C w0 σ0 ids fn s rm wr a p.out (q.ex++p.ex) x e a' w':=by
       intro e au ho hx;subst hx;exact ho.mono (λy hy=>iT _ hy) (.refl _ _) (λe=>absurd e au)
      cases e with
      |normal=>
       obtain⟨ρ1,S2,e1,e2,dU,iz⟩:=ho;subst e1;rw[kR] at e2;cases e2;simp only at h2;refine wpIn_mono (wC rm S1 _ hp rd w0 σ0 wr ρ1 x a' w' gz hC hY cZ (dU.size.trans hn) iz h2) λe a2 w2 fI=>?_;exact fI.mono (λy hy=>jG _ hy) dU (λ_=>rfl)
      |exit id=>
       refine other (by simp) ho ?_;obtain⟨ρ1,S2,e1,_⟩:=ho;subst e1;simpa using h2
      |ret=>
       refine other (by simp) ho ?_;cases rm with
       |false=>obtain⟨d,e1,_⟩:=ho;subst e1;simpa using h2
       |true=>obtain⟨ρ1,S2,e1,_⟩:=ho;subst e1;simpa using h2
      |_=>exact ho.elim
   cases h1:q.pc.ev Z N O with
   |none=>rw[h1] at he;simp at he
   |some x1=>rw[h1] at he;exact key x1 h1 he
 |cond c c1 c2=>
  have wB:=IH c1 (by simp at hc;omega);have wC:=IH c2 (by simp at hc;omega);intro rm S r h rd w0 σ0 wr O x a w gz hC hY gC hn hg he;have je:∀t,t∈cD c1->wr t:=λt ht=>gC t (iT _ ht);have cZ:∀t,t∈cD c2->wr t:=λt ht=>gC t (jG _ ht);simp only[comp] at h;split at h
  case h_2=>cases h;exact absurd he (nF _ _ _ _)
  rename_i e hu;simp only[az,aB] at h;obtain⟨q,hq,p,hp,rfl⟩:=h;have hb:∃b,a.eval c=.bool b/\e.ev O=.v (.bool b):=by
   obtain⟨V,own,hv,hi⟩:=hg;have:=cv (gs:=[]) hi hC rfl hu;generalize a.eval c=v at this;generalize e.ev O=d at this;cases this with|bool b=>exact⟨b,rfl,rfl⟩
  obtain⟨b,gu,de⟩:=hb;have tq:=vK c1 hq;have FT:=vK c2 hp;have main:∀(o:Option Snap) (lr lo:List Nat) (rx:Res2),rx=⟨.ite e lr lo q.pc p.pc,o,q.ex++p.ex,Nat.lor q.mr p.mr,kc q.mo p.mo⟩->
        (∀M,o=some M->lr=kY M (Nat.lor q.mr p.mr)/\lo=jY ids M (kc q.mo p.mo))->
        (∀S1 ρ1 a w,q.out=some S1->Good C w0 σ0 (S1.st ids) ρ1 (λ_=>False) a w->∃M,o=some M/\Good C w0 σ0 (M.st ids) ρ1 (λ_=>False) a w)->
        (∀S1 ρ1 a w,p.out=some S1->Good C w0 σ0 (S1.st ids) ρ1 (λ_=>False) a w->∃M,o=some M/\Good C w0 σ0 (M.st ids) ρ1 (λ_=>False) a w)->
        rx.pc.ev Z N O=some x->(Code.cond c c1 c2).wpIn (FR rd) 0 C.P (iu C w0 σ0 ids fn s rm wr a rx.out rx.ex x) a w:=by
   intro o lr lo rx hrx hl tA oN bL;subst hrx;simp only[PC.ev,de,D.b_bool] at bL;have fin:∀(ci:Code) (qi:Res2) (xi:Out),(∀y,y∈qi.ex->y∈q.ex++p.ex)->(∀t,t∈qi.pc.modR->aR (Nat.lor q.mr p.mr) t=true)->(∀j,j∈qi.pc.modO->j∈kc q.mo p.mo)->
    (∀S1 ρ1 a w,qi.out=some S1->Good C w0 σ0 (S1.st ids) ρ1 (λ_=>False) a w->∃M,o=some M/\Good C w0 σ0 (M.st ids) ρ1 (λ_=>False) a w)->
    qi.pc.ev Z N O=some xi->(match some xi with|some (.next O')=>some (Out.next (O.join lr lo O'))|y=>y)=some x->
    ci.wpIn (FR rd) 0 C.P (iu C w0 σ0 ids fn s rm wr a qi.out qi.ex xi) a w->ci.wpIn (FR rd) 0 C.P (iu C w0 σ0 ids fn s rm wr a o (q.ex++p.ex) x) a w:=by
        intro ci qi xi hex ml ng kR dM hx hwp;refine wpIn_mono hwp λee a' w' ho=>?_;have other:ee≠.normal->xi=x->iu C w0 σ0 ids fn s rm wr a o (q.ex++p.ex) x ee a' w':=by
         intro au kU;subst kU;exact ho.mono hex (.refl _ _) (λe=>absurd e au)
        cases ee with
        |normal=>
         obtain⟨ρ1,S2,e1,e2,dU,iz⟩:=ho;subst e1;simp only[aZ] at hx;subst hx;obtain⟨M,hM,uP⟩:=kR S2 ρ1 a' w' e2 iz;obtain⟨l1,l2⟩:=hl M hM;subst l1 l2;exact⟨_,M,rfl,hM,dU,uP.joined (PC.ev_but qi.pc O _ ρ1 dM rfl) ml ng⟩
        |exit id=>
         refine other (by simp) ?_;obtain⟨ρ1,S2,e1,_⟩:=ho;subst e1;simpa using hx
        |ret=>
         refine other (by simp) ?_;cases rm with
         |false=>obtain⟨d,e1,_⟩:=ho;subst e1;simpa using hx
         |true=>obtain⟨ρ1,S2,e1,_⟩:=ho;subst e1;simpa using hx
        |_=>exact ho.elim
   refine wpIn_cond gu ?_;cases b with
   |true=>
    simp only[zyy] at bL;cases dM:q.pc.ev Z N O with
    |none=>rw[dM] at bL;simp at bL
    |some xi=>
     rw[dM] at bL;refine fin c1 q xi (λy hy=>iT _ hy) (λt ht=>?_) (λj hj=>rX.2 (.inl (tq.2 j hj))) tA dM bL (wB rm S _ hq rd w0 σ0 wr O xi a w gz hC hY je hn hg dM);rw[gR,tq.1 t ht];rfl
   |false=>
    simp only[zyx] at bL;cases dM:p.pc.ev Z N O with
    |none=>rw[dM] at bL;simp at bL
    |some xi=>
     rw[dM] at bL;refine fin c2 p xi (λy hy=>jG _ hy) (λt ht=>?_) (λj hj=>rX.2 (.inr (FT.2 j hj))) oN dM bL (wC rm S _ hp rd w0 σ0 wr O xi a w gz hC hY cZ hn hg dM);rw[gR,FT.1 t ht,uj]
  have tA:∀S1 ρ1 a w,q.out=some S1->Good C w0 σ0 (S1.st ids) ρ1 (λ_=>False) a w->∃M,np q.out p.out=some M/\Good C w0 σ0 (M.st ids) ρ1 (λ_=>False) a w:=by
   intro S1 ρ1 a w e1 g1;rw[e1];obtain⟨M,hM⟩:=@afp S1 p.out;exact⟨M,hM,afn g1 hM⟩
  have oN:∀S1 ρ1 a w,p.out=some S1->Good C w0 σ0 (S1.st ids) ρ1 (λ_=>False) a w->∃M,np q.out p.out=some M/\Good C w0 σ0 (M.st ids) ρ1 (λ_=>False) a w:=by
   intro S1 ρ1 a w e1 g1;rw[e1];obtain⟨M,hM⟩:=@afq q.out S1;exact⟨M,hM,afo g1 hM⟩
  cases hm:np q.out p.out with
  |none=>
   rw[hm] at tA oN;simp only[hm] at he ⊢;exact main none [] [] _ rfl (λM e=>by cases e) tA oN he
  |some M=>
   rw[hm] at tA oN;simp only[hm] at he ⊢;exact main (some M) _ _ _ rfl (λM' e=>by cases e;exact⟨rfl,rfl⟩) tA oN he
 |block id c1=>
  have wB:=IH c1 (by simp at hc;omega);intro rm S r h rd w0 σ0 wr O x a w gz hC hY gC hn hg he;simp only[comp] at h;cases cL:Nat.beq id cP<;>simp only[cL,zyy,zyx] at h
  case true=>cases h;exact absurd he (nF _ _ _ _)
  have LN:id≠cP:=λe=>by subst e;simp at cL
  simp only[aB] at h;obtain⟨q,hq,rfl⟩:=h;obtain⟨xi,dM⟩:=abb he;exact wpIn_block (wpIn_mono (wB rm S _ hq rd w0 σ0 wr O xi a w gz hC hY gC hn hg dM) λe a' w' fW=>abd LN (vK c1 hq) dM he fW)
 |loop c1=>
  have wB:=IH c1 (by simp at hc;omega);intro rm S r h rd w0 σ0 wr O x a w gz hC hY gC hn hg he;rw[abC] at h;split at h
  .rename_i qb Ga;obtain⟨p,code,ws⟩:=qb;unfold zi at Ga;split at Ga
   case h_2=>cases Ga
   rename_i cx cy ck cz cc;simp only[aB] at Ga;obtain⟨p',aV,ep⟩:=Ga;cases ep;exact auk aV (IH _ (by simp at hc;omega)) h gz hC hY gC hn hg he
  split at h
  case h_2=>cases h;exact absurd he (nF _ _ _ _)
  rename_i q hq;cases h;obtain⟨hs,B8,bO⟩:=Gw (C:=C) (w0:=w0) (σ0:=σ0) (ids:=ids) 8 hq;have tq:=vK c1 hs;simp only[PC.ev] at he
  have yI:Good C w0 σ0 (q.1.st ids) (O.put (kY q.1 q.2.mr) ((kY q.1 q.2.mr).map O.r) (jY ids q.1 q.2.mo) ((jY ids q.1 q.2.mo).map O.o)) (λ_=>False) a w:=by
   exact Good.joined (bO hg) (.refl O q.2.pc.modR q.2.pc.modO) tq.1 tq.2
  have key:∀(k:Nat) (ρ1:Env) (a':Act) (w:World),SameBut wr a a'->jh (q.2.pc.ev Z N) O (kY q.1 q.2.mr) (jY ids q.1 q.2.mo) k ((kY q.1 q.2.mr).map ρ1.r) ((jY ids q.1 q.2.mo).map ρ1.o)=some x->
        Good C w0 σ0 (q.1.st ids) (O.join (kY q.1 q.2.mr) (jY ids q.1 q.2.mo) ρ1) (λ_=>False) a' w->Code.roundsIn (FR rd) 0 C.P c1 (iu C w0 σ0 ids fn s rm wr a none q.2.ex x) k a' w:=by
   intro k
   induction k with
   |zero=>intro ρ1 a' w hn hl hg;simp[jh] at hl
   |succ k ih=>
    intro ρ1 a' w kS hl hg;rw[roundsIn_succ];simp only[jh] at hl;change (match q.2.pc.ev Z N (O.join (kY q.1 q.2.mr) (jY ids q.1 q.2.mo) ρ1) with|some (.next O')=>_|y=>y)=some x at hl;cases dM:q.2.pc.ev Z N (O.join (kY q.1 q.2.mr) (jY ids q.1 q.2.mo) ρ1) with
    |none=>rw[dM] at hl;simp at hl
    |some xi=>
     rw[dM] at hl;refine wpIn_mono (wB rm _ _ hs rd w0 σ0 wr _ xi a' w gz hC hY gC (kS.size.trans hn) hg dM) λe a2 w' fW=>?_;have other:e≠.normal->xi=x->iu C w0 σ0 ids fn s rm wr a none q.2.ex x e a2 w':=by
         intro au kU;subst kU;exact fW.mono (λy hy=>hy) kS (λe=>absurd e au)
     cases e with
     |normal=>
      obtain⟨ρ2,S2,e1,e2,dU,iz⟩:=fW;subst e1;simp only at hl;refine ih ρ2 a2 w' (kS.trans dU) hl ?_
      have uP:Good C w0 σ0 (q.1.st ids) ρ2 (λ_=>False) a2 w':=by
       have:=iz.meet2 (x:=q.1)
       rwa [B8 S2 e2] at this
      refine uP.joined (mr':=kY q.1 q.2.mr++q.2.pc.modR) (mo':=jY ids q.1 q.2.mo++q.2.pc.modO) ?_ (λt ht=>?_) (λj hj=>?_)
      .exact((Env.but.join O ρ1 _ _).mono (λt ht=>iT _ ht) (λt ht=>iT _ ht)).trans
        ((PC.ev_but q.2.pc _ _ ρ2 dM rfl).mono (λt ht=>jG _ ht) (λt ht=>jG _ ht))
      .exact(dC.1 ht).elim MC (tq.1 t)
      .exact(dC.1 hj).elim CG (tq.2 j)
     |exit id=>
      refine other (by simp) ?_;obtain⟨ρ1,S2,e1,_⟩:=fW;subst e1;simpa using hl
     |ret=>
      refine other (by simp) ?_;cases rm with
      |false=>obtain⟨d,e1,_⟩:=fW;subst e1;simpa using hl
      |true=>obtain⟨ρ1,S2,e1,_⟩:=fW;subst e1;simpa using hl
     |_=>exact fW.elim
  exact wpIn_loop_rounds N (key N O a w (.refl _ _) he yI)
 |exit id=>
  intro rm S r h rd w0 σ0 wr O x a w gz hC hY gC hn hg he;simp only[comp] at h;cases cL:Nat.beq id cP<;>simp only[cL,zyy,zyx] at h
  case true=>cases h;exact absurd he (nF _ _ _ _)
  cases h;simp only[PC.ev,aZ] at he;subst he;exact wpIn_exit ⟨O,S,rfl,λe=>by subst e;simp at cL,by simp,.refl _ _,hg⟩
 |ret=>
  intro rm S r h rd w0 σ0 wr O x a w gz hC hY gC hn hg he;simp only[comp] at h;cases rm<;>simp only[zyy,zyx] at h
  case true=>
   cases h;simp only[PC.ev,aZ] at he;subst he;exact wpIn_ret ⟨O,S,rfl,by simp,.refl _ _,hg⟩
  split at h
  .rename_i e SQ;cases h;simp only[PC.ev,aZ] at he;subst he;obtain⟨V,own,hv,hi⟩:=hg;exact wpIn_ret ⟨_,rfl,Inv.retD hC (λ_=>rfl) (gz rfl).2 SQ _ hi rfl,.refl _ _⟩
  .cases h;exact absurd he (nF _ _ _ _)
 |rangeFunc g ps ca cb=>exact awj dv (IH ca (by simp at hc;omega)) (IH cb (by simp at hc;omega))
 |_=>intro rm S r h rd w0 σ0 wr O x a w gz hC hY gC hn hg he;simp only[comp,aZ] at h;subst h;exact absurd he (nF _ _ _ _)
def amg {N:Nat}(dv:gP C Z)(hR:Pz C n ids Z R)(c:Code):xX C Z fn s n ids R N c:=amh dv hR _ c (Nat.lt_succ_self _)
end
end Cx
