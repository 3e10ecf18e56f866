import Derived.LoopNIn
import Derived.Test.YtbagcfebdgiihaaGreatDoorAAD
import Derived.LoopN
set_option linter.all false
namespace Cx
open Go Go.RowKit
def aW (m t:Nat):Bool:= !Nat.beq (Nat.land 1 (Nat.shiftRight m t)) 0
def yZ (m t:Nat):aW m t=m.testBit t:=by
 unfold aW Nat.testBit;show(!Nat.beq (1&&& (m>>>t)) 0)=((1&&& (m>>>t))!=0)
 generalize 1&&& (m>>>t)=x;cases x<;>rfl
def ir (t:Nat):Nat:=Nat.shiftLeft 1 t
def sk (t:Nat):aW (ir t) t=true:=by
 rw[yZ];show(1<<<t).testBit t=true;simp[Nat.testBit_shiftLeft]
def gT (m k t:Nat):aW (Nat.lor m k) t=(aW m t||aW k t):=by
 simp only[yZ];exact Nat.testBit_or m k t
def PI.mask:PI->Nat
 |.setR t _=>ir t|.call _ t _ _=>ir t|.callc _ t _ _=>ir t|_=>0
def Oj:List PI->Nat
 |[]=>0
 |p::l=>Nat.lor p.mask (Oj l)
def PI.objs:PI->List Nat
 |.setO j _=>[j]|.mcall j _ _=>[j]|_=>[]
def gp (l:List Nat)(x:Nat):Bool:=l.any (Nat.beq x)
def jZ (a b:List Nat):List Nat:=a.foldl (λacc x=>bif gp acc x then acc else x::acc) b
def aiX (l:List PI):List Nat:=l.foldl (λacc p=>jZ p.objs acc) []
def sV (l:List Nat)(x:Nat):gp l x=true↔x∈l:=by
 unfold gp;rw[A7];constructor
 .rintro⟨y,hy,h⟩;rw[aK h];exact hy
 .intro h;exact⟨x,h,nO x⟩
def rl {x:Nat}:∀{a b:List Nat},x∈jZ a b↔x∈a\/x∈b
 |[],b=>by simp[jZ]
 |y::a,b=>by
  have ih:=@rl x a (bif gp b y then b else y::b);have e:jZ (y::a) b=jZ a (bif gp b y then b else y::b):=rfl;rw[e,ih];cases hb:gp b y
  .simp[or_assoc,or_left_comm]
  .have:=(sV b y).1 hb;simp only[zyv,dG];constructor
   .rintro(h|h)
    .exact .inl (.inr h)
    .exact .inr h
   .rintro((h|h)|h)
    .subst h;exact .inr this
    .exact .inl h
    .exact .inr h
def azm {x:Nat}(l:List PI)(h:x∈l.flatMap PI.modO):x∈aiX l:=by
 have key:∀(l:List PI) (acc:List Nat),(x∈l.flatMap PI.modO\/x∈acc)->x∈l.foldl (λacc p=>jZ p.objs acc) acc:=by
  intro l
  induction l with
  |nil=>intro acc h;simpa using h
  |cons p l ih=>
   intro acc h;refine ih _ ?_;rw[EG,dT] at h;rcases h with(h|h)|h
   .refine .inr (rl.2 (.inl ?_));cases p<;>simp_all [PI.modO,PI.objs]
   .exact .inl h
   .exact .inr (rl.2 (.inr h))
 exact key l [] (.inl h)
def aiw {t:Nat}:∀(l:List PI),t∈l.flatMap PI.modR->aW (Oj l) t=true
 |[],h=>by simp at h
 |p::l,h=>by
  rw[EG,dT] at h;simp only[Oj,gT,lZ];rcases h with h|h
  .left;cases p<;>simp[PI.modR] at h<;>subst h<;>exact sk _
  .exact .inr (aiw l h)
structure Res2 where
 pc:PC
 out:Option Snap
 ex:List (Nat×Snap)
 mr:Nat
 mo:List Nat
 deriving Inhabited
def nk:Option Snap->Option Snap->Option Snap
 |none,x=>x
 |x,none=>x
 |some a,some b=>some (a.meet b)
def qf (id:Nat):List (Nat×Snap)->Option Snap->Option Snap
 |[],acc=>acc
 |x::l,acc=>qf id l (bif Nat.beq x.1 id then nk acc (some x.2) else acc)
def iter (step:Snap->Option Res2):Nat->Snap->Option (Snap×Res2)
 |0,_=>none
 |k+1,S=>(step S).bind λr=>
  match r.out with
  |none=>some (S,r)
  |some T=>bif (S.meet T).beq S then some (S,r) else iter step k (S.meet T)
def kQ (S:Snap)(m:Nat):List Nat:=(List.range S.rs.length).filter λt=>aW m t&& !isNone (cW (S.rs.getD t .none))
def jS (ids:List Nat)(S:Snap)(l:List Nat):List Nat:=l.filter λj=> !sR (eX ids S.os j)
def ib:Res2:=⟨.is [Jz],none,[],0,[]⟩
def nE (V:bf)(N:Nat)(Z:Env)(x:Out):ib.pc.ev V N Z≠some x:=by
 intro h;simp[ib,PC.ev,PI.runs,PI.run,Jz,PE.ev,D.b_bool] at h
def nF:(∀t,t∈ib.pc.modR->aW ib.mr t=true)/\∀j,j∈ib.pc.modO->j∈ib.mo:=by
 constructor<;>intro t h<;>simp[ib,PC.modR,PC.modO,PI.modR,PI.modO,Jz] at h
def cX:Code->List Nat
 |.region _ ops _=>ops.toList.filterMap (·.dst)
 |.seq a b=>cX a++cX b
 |.cond _ a b=>cX a++cX b
 |.block _ a=>cX a
 |.loop a=>cX a
 |_=>[]
def Ap (l:List Nat):Nat:=l.foldr (λt m=>Nat.lor (ir t) m) 0
def u7 (m:Nat):Nat->List Sh->List Sh
 |_,[]=>[]
 |t,s::l=>(bif aW m t then .none else s)::u7 m (t+1) l
def Snap.mask (m:Nat)(S:Snap):Snap:=⟨u7 m 0 S.rs,S.os⟩
def uJ:Sh->Sh
 |.yv=>.none
 |s=>s
def tD:List Nat->List Ty->List Sh->List Sh
 |p::ps,y::ys,l=>tD ps ys (l.set p (.dat y))
 |_,_,l=>l
def Snap.start (ps:List Nat)(ys:List Ty)(S:Snap):Snap:=⟨tD ps ys (S.rs.map uJ),S.os⟩
def aim (ids:List Nat)(l:List Snap)(mo:List Nat):List Nat:=mo.filter λj=>l.any λS=> !sR (eX ids S.os j)
def aCe (wm:Nat)(ra rb:Res2):Res2:=
 let m:=Nat.lor wm (Nat.lor ra.mr rb.mr)
 ⟨.seq ra.pc rb.pc,rb.out.map (Snap.mask m),rb.ex.map (λx=>(x.1,x.2.mask m)),m,jZ ra.mo rb.mo⟩
def gU (ids:List Nat)(id:Nat)(r:Res2):Res2:=
    match qf id r.ex r.out with
    |some M=>⟨.block id (kQ M r.mr) (jS ids M r.mo) r.pc,some M,r.ex.filter λx=> !Nat.beq x.1 id,r.mr,r.mo⟩
    |none=>⟨.block id [] [] r.pc,none,r.ex.filter λx=> !Nat.beq x.1 id,r.mr,r.mo⟩
def xA:List (Nat×Nat)->Nat->Option Nat
 |[],_=>none
 |x::l,t=>bif Nat.beq x.1 t then some x.2 else xA l t
def lP (pr:Nat):List Oper->List (Nat×Nat)->Option (List (Nat×Nat))
 |[],acc=>some acc
 |o::l,acc=>
  match o.dst,o.guard with
  |some d,none=>
   bif Nat.beq d pr||(xA acc d).isSome then none else
   match o.op with
   |.extract (.tmp t) i=>bif Nat.beq t pr&&Nat.ble i 1 then lP pr l (acc++[(d,i)]) else none
   |.assign (.tmp t)=>(xA acc t).bind λi=>lP pr l (acc++[(d,i)])
   |.move (.tmp t)=>(xA acc t).bind λi=>lP pr l (acc++[(d,i)])
   |_=>none
  |_,_=>none
structure MP where
 it:Nat
 nx:Nat
 mo:Nat
 out:Nat
 next:Nat
 pr:Nat
 ops1:Array Oper
 ops2:Array Oper
 aa:List (Nat×Nat)
 deriving Inhabited
def DA (x y:Code)(k:Nat)(z:Code):Option MP:=
 match x,y,z with
 |.region _ ops1 false,.cond (.tmp mo) .skip (.exit out),.region _ ops2 false=>
  match ops1.toList,ops2.toList with
  |[o1,o2],o3::l=>
   match o1.dst,o1.guard,o1.op,o2.dst,o2.guard,o2.op,o3.dst,o3.guard,o3.op with
   |some nx,none,.next (.tmp it) false,some mo',none,.extract (.tmp nx') 0,some pr,none,.entry (.tmp it')=>
    bif Nat.beq mo mo'&&Nat.beq nx nx'&&Nat.beq it it'&& !Nat.beq it nx&& !Nat.beq it mo&& !Nat.beq it pr&& !Nat.beq nx mo&& !Nat.beq out db&& !Nat.beq k db then
     (lP pr l []).map λaa=>⟨it,nx,mo,out,k,pr,ops1,ops2,aa⟩
    else none
   |_,_,_,_,_,_,_,_,_=>none
  |_,_=>none
 |_,_,_=>none
def Ai:List Nat->Nat->List Ob->List Ob
 |i::is,J,o::os=>(bif Nat.beq i J then .dead else o)::Ai is J os
 |_,_,os=>os
def Snap.kill (ids:List Nat)(J:Nat)(S:Snap):Snap:=⟨S.rs,Ai ids J S.os⟩
def ahL (J:Nat)(kt et:Ty)(ids:List Nat)(p:MP)(m:Nat)(S:Snap):Bool:=
 Sh.beq (S.rs.getD p.it .none) (.obj J 0)&&Ob.beq (eX ids S.os J) (.it kt et)&& !aW m p.it
def DB (ids:List Nat)(n:Nat)(p:MP)(ws:List Nat)(f:Snap->Option Res2)(S:Snap):Option Res2:=
 match cW (S.rs.getD p.it .none) with
 |.obj J 0=>
  match eX ids S.os J with
  |.it kt et=>
   let ps:=p.aa.map (·.1)
   let ys:=p.aa.map λx=>bif Nat.beq x.2 0 then kt else et
   let m:=Ap ws
   match iter (λS=>(f ((S.mask m).start ps ys)).map (gU ids p.next)) 8 S with
   |some r=>
    bif r.2.ex.isEmpty&& !gp r.2.mo J&&ahL J kt et ids p m r.1&&nm ps&&ps.all (λt=>Nat.blt t n)&&Nat.blt p.nx n&&Nat.blt p.mo n&&Nat.blt p.pr n&&Nat.beq (Nat.lor m r.2.mr) m then
       some ⟨.seq (.meach J ps (p.aa.map (·.2)) (jS ids r.1 r.2.mo) r.2.pc) (.exit p.out),none,[(p.out,(r.1.mask m).kill ids J)],0,r.2.mo⟩
    else some ib
   |none=>some ib
  |_=>some ib
 |_=>some ib
def comp (C:Ctx)(fn:Func)(s:Sig)(n:Nat)(ids:List Nat)(R:Array Oper->Bool->Snap->Option (Snap×List PI)):Bool->Code->Snap->Option Res2
 |_,.skip,S=>some ⟨.skip,some S,[],0,[]⟩
 |_,.region _ ops draw,S=>(R ops draw S).map λr=>⟨.is r.2,some r.1,[],Oj r.2,aiX r.2⟩
 |rm,.seq a b,S=>(comp C fn s n ids R rm a S).bind λr=>
  match r.out with
  |none=>some r
  |some S1=>(comp C fn s n ids R rm b S1).map λq=>⟨.seq r.pc q.pc,q.out,r.ex++q.ex,Nat.lor r.mr q.mr,jZ r.mo q.mo⟩
 |rm,.cond c a b,S=>
  match use C (S.st ids) [] c with
  |some (.bool,e)=>
   (comp C fn s n ids R rm a S).bind λr=>(comp C fn s n ids R rm b S).map λq=>
     match nk r.out q.out with
     |some M=>⟨.ite e (kQ M (Nat.lor r.mr q.mr)) (jS ids M (jZ r.mo q.mo)) r.pc q.pc,some M,r.ex++q.ex,Nat.lor r.mr q.mr,jZ r.mo q.mo⟩
     |none=>⟨.ite e [] [] r.pc q.pc,none,r.ex++q.ex,Nat.lor r.mr q.mr,jZ r.mo q.mo⟩
  |_=>some ib
 |rm,.block id a,S=>bif Nat.beq id db then some ib else(comp C fn s n ids R rm a S).map (gU ids id)
 |rm,.loop (.seq x (.seq y (.block k (.seq z code)))),S=>
  (match DA x y k z with
  |some p=>DB ids n p (cX x++(cX y++(cX z++cX code))) (λS=>comp C fn s n ids R rm code S) S
  |none=>
  match iter (λS=>comp C fn s n ids R rm (.seq x (.seq y (.block k (.seq z code)))) S) 8 S with
  |some r=>some ⟨.loop (kQ r.1 r.2.mr) (jS ids r.1 r.2.mo) r.2.pc,none,r.2.ex,r.2.mr,r.2.mo⟩
  |none=>some ib)
 |rm,.loop a,S=>
  match iter (λS=>comp C fn s n ids R rm a S) 8 S with
  |some r=>some ⟨.loop (kQ r.1 r.2.mr) (jS ids r.1 r.2.mo) r.2.pc,none,r.2.ex,r.2.mr,r.2.mo⟩
  |none=>some ib
 |_,.exit id,S=>bif Nat.beq id db then some ib else some ⟨.exit id,none,[(id,S)],0,[]⟩
 |rm,.ret,S=>
  bif rm then some ⟨.exit db,none,[(db,S)],0,[]⟩ else
  match AN C fn s (S.st ids) with
  |some e=>some ⟨.ret e,none,[],0,[]⟩
  |none=>some ib
 |rm,.rangeFunc g ps a b,S=>
  match rm,C.yl,use C (S.st ids) [] g with
  |false,none,some (.fn aa r,e)=>
   match oT aa r with
   |some ys=>
    match iter (λS=>(comp C fn s n ids R true a (S.start ps.toList ys)).bind λra=>
          match ra.out,ra.ex with
          |some S1,[]=>(comp C fn s n ids R true b S1).map (aCe (Ap (ps.toList++cX a++cX b)) ra)
          |_,_=>none) 8 S with
    |some r=>
     bif Nat.beq ys.length ps.size&&nm ps.toList&&ps.toList.all (λp=>Nat.blt p n)&&Nat.ble r.1.rs.length n then
           some ⟨.seq (.is [.callc [] n e []]) (.each (.r n) ps.toList (aim ids (r.1::r.2.ex.map (·.2)) r.2.mo) ((qf db r.2.ex none).bind λM=>AN C fn s (M.st ids)) r.2.pc),
            some r.1,r.2.ex.filter (λx=> !Nat.beq x.1 db),ir n,r.2.mo⟩
     else some ib
    |none=>some ib
   |none=>some ib
  |_,_,_=>some ib
 |_,_,_=>some ib
termination_by structural _ c=>c
def An:Code->Option (MP×Code×List Nat)
 |.seq x (.seq y (.block k (.seq z code)))=>(DA x y k z).map λp=>(p,code,cX x++(cX y++(cX z++cX code)))
 |_=>none
def afe (C:Ctx)(fn:Func)(s:Sig)(n:Nat)(ids:List Nat)(R:Array Oper->Bool->Snap->Option (Snap×List PI))(rm:Bool)(a:Code)(S:Snap):comp C fn s n ids R rm (.loop a) S=
 match An a with
 |some q=>DB ids n q.1 q.2.2 (λS=>comp C fn s n ids R rm q.2.1 S) S
 |none=>
  match iter (λS=>comp C fn s n ids R rm a S) 8 S with
  |some r=>some ⟨.loop (kQ r.1 r.2.mr) (jS ids r.1 r.2.mo) r.2.pc,none,r.2.ex,r.2.mr,r.2.mo⟩
  |none=>some ib:=by
 by_cases h:∃x y k z code,a=.seq x (.seq y (.block k (.seq z code)))
 .obtain⟨x,y,k,z,code,rfl⟩:=h
  conv=>lhs;unfold comp
  simp only[An];cases DA x y k z<;>rfl
 .have e:An a=none:=by
   unfold An;split
   .rename_i x y k z code;exact absurd ⟨x,y,k,z,code,rfl⟩ h
   .rfl
  rw[e];rw[comp];intro x y k z code e;exact h ⟨x,y,k,z,code,e⟩
def subs:Code->List Code
 |.seq a b=>.seq a b::(subs a++subs b)
 |.cond c a b=>.cond c a b::(subs a++subs b)
 |.block i a=>.block i a::subs a
 |.loop a=>.loop a::subs a
 |.rangeFunc g ps a b=>.rangeFunc g ps a b::(subs a++subs b)
 |c=>[c]
def aC0 (c:Code):c∈subs c:=by cases c<;>simp[subs]
def aNn {a code:Code}{p:MP}{ws:List Nat}(h:An a=some (p,code,ws)):code∈subs a:=by
 unfold An at h;split at h
 .simp only[aT] at h;obtain⟨q,_,e⟩:=h;cases e;simp[subs,aC0]
 .cases h
def RK (C:Ctx)(n:Nat)(ids:List Nat)(V:bf)(R:Array Oper->Bool->Snap->Option (Snap×List PI)):Prop:=
 ∀(id:Nat) (ops:Array Oper) (draw:Bool) (S:Snap) (r:Snap×List PI),R ops draw S=some r->
  ∀(rd:Option Nat) (w0:World) (σ0:Base) (Z Z':Env) (a:Act) (w:World) (Q:Exit->Act->World->Prop),CtxOK C σ0->ud C V w0 σ0->a.tmps.size=n->Good C w0 σ0 (S.st ids) Z (λ_=>False) a w->PI.runs V r.2 Z=some Z'->
   (∀a' w',SameBut (CG ops) a a'->Good C w0 σ0 (r.1.st ids) Z' (λ_=>False) a' w'->Q .normal a' w')->(Code.region id ops draw).wpIn (FR rd) 0 C.P Q a w
section
variable {C:Ctx} {Z Z':Env} {H:Im} {own:Nat->Option Nat} {hv:Nat->Value} {w0:World} {σ0:Base} {A:Nat->Prop} {a:Act} {w:World} {V:bf} {n:Nat} {ids:List Nat} {fn:Func} {s:Sig}
 {R:Array Oper->Bool->Snap->Option (Snap×List PI)}
def il (C:Ctx)(w0:World)(σ0:Base)(ids:List Nat)(fn:Func)(s:Sig)(rm:Bool)(wr:Nat->Prop)(a0:Act)(out:Option Snap)(ex:List (Nat×Snap))(x:Out):Exit->Act->World->Prop
 |.normal,a,w=>∃Z S,x=.next Z/\out=some S/\SameBut wr a0 a/\Good C w0 σ0 (S.st ids) Z (λ_=>False) a w
 |.exit id,a,w=>∃Z S,x=.exit id Z/\id≠db/\(id,S)∈ex/\SameBut wr a0 a/\Good C w0 σ0 (S.st ids) Z (λ_=>False) a w
 |.ret,a,w=>match rm with
  |false=>∃d,x=.ret d/\ub C w0 σ0 fn s d a.tmps a.defers w/\SameBut wr a0 a
  |true=>∃Z S,x=.exit db Z/\(db,S)∈ex/\SameBut wr a0 a/\Good C w0 σ0 (S.st ids) Z (λ_=>False) a w
 |_,_,_=>False
def Good.meet1 {x y:Snap}(h:Good C w0 σ0 (x.st ids) Z A a w):Good C w0 σ0 ((x.meet y).st ids) Z (λ_=>False) a w:=by
 obtain⟨H,own,hv,h⟩:=h;exact⟨H,own,hv,Snap.meet_ok1 h⟩
def Good.meet2 {x y:Snap}(h:Good C w0 σ0 (y.st ids) Z A a w):Good C w0 σ0 ((x.meet y).st ids) Z (λ_=>False) a w:=by
 obtain⟨H,own,hv,h⟩:=h;exact⟨H,own,hv,Snap.meet_ok2 h⟩
def aiD {x:Snap}{y:Option Snap}{M:Snap}(h:Good C w0 σ0 (x.st ids) Z (λ_=>False) a w)(hm:nk (some x) y=some M):Good C w0 σ0 (M.st ids) Z (λ_=>False) a w:=by
 cases y<;>simp[nk] at hm<;>subst hm
 .exact h
 .exact h.meet1
def aiE {x:Option Snap}{y:Snap}{M:Snap}(h:Good C w0 σ0 (y.st ids) Z (λ_=>False) a w)(hm:nk x (some y)=some M):Good C w0 σ0 (M.st ids) Z (λ_=>False) a w:=by
 cases x<;>simp[nk] at hm<;>subst hm
 .exact h
 .exact h.meet2
def aiF {x:Snap}{y:Option Snap}:∃M,nk (some x) y=some M:=by cases y<;>simp[nk]
def aiG {x:Option Snap}{y:Snap}:∃M,nk x (some y)=some M:=by cases x<;>simp[nk]
def Ok {id:Nat}:∀(l:List (Nat×Snap)) {x:Snap},Good C w0 σ0 (x.st ids) Z (λ_=>False) a w->∃M,qf id l (some x)=some M/\Good C w0 σ0 (M.st ids) Z (λ_=>False) a w
 |[],x,h=>⟨x,rfl,h⟩
 |y::l,x,h=>by
  simp only[qf];cases Nat.beq y.1 id
  .exact Ok l h
  .obtain⟨M,hM⟩:=@aiF x (some y.2);simp only[zyv,hM];exact Ok l (aiD h hM)
def V2 {id:Nat}{S:Snap}(h:Good C w0 σ0 (S.st ids) Z (λ_=>False) a w):∀(l:List (Nat×Snap)) (x:Option Snap),(id,S)∈l->∃M,qf id l x=some M/\Good C w0 σ0 (M.st ids) Z (λ_=>False) a w
 |y::l,x,hm=>by
  simp only[qf];rcases dG.1 hm with e|hm
  .subst e;simp only[nO,zyv];obtain⟨M,hM⟩:=@aiG x S;rw[hM];exact Ok l (aiE h hM)
  .exact V2 h l _ hm
def Hi {step:Snap->Option Res2}:∀(k:Nat) {S:Snap} {r:Snap×Res2},iter step k S=some r->
 step r.1=some r.2/\(∀T,r.2.out=some T->r.1.meet T=r.1)/\∀{Z:Env} {a:Act} {w:World},Good C w0 σ0 (S.st ids) Z (λ_=>False) a w->Good C w0 σ0 (r.1.st ids) Z (λ_=>False) a w
 |0,S,r,h=>by simp[iter] at h
 |k+1,S,r,h=>by
  simp only[iter,aJ] at h;obtain⟨q,hq,h⟩:=h;split at h
  .rename_i ho;cases h;exact⟨hq,λT hT=>by simp[ho] at hT,λg=>g⟩
  .rename_i T ho;cases hb:(S.meet T).beq S<;>simp only[hb,zyv,zyu] at h
   .obtain⟨h1,h2,h3⟩:=Hi k h;exact⟨h1,h2,λg=>h3 g.meet1⟩
   .cases h;refine⟨hq,λT' hT=>?_,λg=>g⟩;simp only[ho,bx] at hT;subst hT;exact Snap.beq_eq _ _ hb
def ahP {step:Snap->Option Res2}{hv:Nat->Value}:∀(k:Nat) {S:Snap} {r:Snap×Res2},iter step k S=some r->Inv C (S.st ids) Z H own hv w0 σ0 (λ_=>False) a w->Inv C (r.1.st ids) Z H own hv w0 σ0 (λ_=>False) a w
 |0,S,r,h,_=>by simp[iter] at h
 |k+1,S,r,h,i=>by
  simp only[iter,aJ] at h;obtain⟨q,hq,h⟩:=h;split at h
  .cases h;exact i
  .rename_i T ho;cases hb:(S.meet T).beq S<;>simp only[hb,zyv,zyu] at h
   .exact ahP k h (Snap.meet_ok1 i)
   .cases h;exact i
def Good.joined {M:Snap}{m:Nat}{mo mr' mo':List Nat}(h:Good C w0 σ0 (M.st ids) Z' (λ_=>False) a w)(hb:Z.but Z' mr' mo')(h1:∀t,t∈mr'->aW m t=true)(h2:∀j,j∈mo'->j∈mo):
 Good C w0 σ0 (M.st ids) (Z.join (kQ M m) (jS ids M mo) Z') (λ_=>False) a w:=by
 obtain⟨H,own,hv,h⟩:=h;refine⟨H,own,hv,h.env (Snap.noOpt _ _) (λt ht=>?_) (λj hj=>?_)⟩
 .simp only[Env.join,Env.put,vf];split
  .rfl
  .rename_i hm;refine(hb.r t λGI=>hm ?_).symm;have aq:t<M.rs.length:=by
        refine aer λhle=>?_;simp only[Snap.st,bn,tX hle,Option.getD_none,cW,isNone] at ht;cases ht
   exact gz.2 ⟨gR.2 aq,by rw[h1 t GI];simpa [Snap.st] using ht⟩
 .simp only[Env.join,Env.put,vf];split
  .rfl
  .rename_i hm;refine(hb.o j λGI=>hm ?_).symm;exact gz.2 ⟨h2 j GI,by simpa [Snap.st] using hj⟩
def Ol {S:Snap}{m t:Nat}(h:t∈kQ S m):aW m t=true:=by
 have:=(gz.1 h).2;simp only[aA] at this;exact this.1
def DD {S:Snap}{l:List Nat}{j:Nat}(h:j∈jS ids S l):j∈l:=(gz.1 h).1
def aeU {id:Nat}{q:Res2}(h:(∀t,t∈q.pc.modR->aW q.mr t=true)/\∀j,j∈q.pc.modO->j∈q.mo):(∀t,t∈(gU ids id q).pc.modR->aW (gU ids id q).mr t=true)/\∀j,j∈(gU ids id q).pc.modO->j∈(gU ids id q).mo:=by
 unfold gU;cases hm:qf id q.ex q.out<;>simp only
 .simpa [PC.modR,PC.modO] using h
 .refine⟨λt ht=>?_,λj hj=>?_⟩
  .simp only[PC.modR,dT] at ht;exact ht.elim Ol (h.1 t)
  .simp only[PC.modO,dT] at hj;exact hj.elim DD (h.2 j)
def azf {p:MP}{ws:List Nat}{f:Snap->Option Res2}{S:Snap}{r:Res2}(h:DB ids n p ws f S=some r):(∀t,t∈r.pc.modR->aW r.mr t=true)/\∀j,j∈r.pc.modO->j∈r.mo:=by
 unfold DB at h;split at h
 case h_2=>cases h;exact nF
 split at h
 case h_2=>cases h;exact nF
 simp only at h;split at h
 case h_2=>cases h;exact nF
 rw[qB] at h;split at h
 .cases h;refine⟨λt ht=>by simp[PC.modR] at ht,λj hj=>?_⟩;simp only[PC.modO,tU] at hj;exact DD hj
 .cases h;exact nF
def wh:∀(c:Code) {rm:Bool} {S:Snap} {r:Res2},comp C fn s n ids R rm c S=some r->(∀t,t∈r.pc.modR->aW r.mr t=true)/\∀j,j∈r.pc.modO->j∈r.mo:=by
 intro c
 induction c with
 |skip=>intro rm S r h;simp only[comp,bx] at h;subst h;simp[PC.modR,PC.modO]
 |region id ops draw=>
  intro rm S r h;simp only[comp,aT] at h;obtain⟨q,_,rfl⟩:=h;exact⟨λt ht=>aiw _ ht,λj hj=>azm _ hj⟩
 |seq x y jR Ac=>
  intro rm S r h;simp only[comp,aJ] at h;obtain⟨q,hq,h⟩:=h;split at h
  .cases h;exact jR hq
  .simp only[aT] at h;obtain⟨p,hp,rfl⟩:=h;refine⟨λt ht=>?_,λj hj=>?_⟩
   .simp only[PC.modR,dT] at ht;rw[gT,lZ];exact ht.imp ((jR hq).1 t) ((Ac hp).1 t)
   .simp only[PC.modO,dT] at hj;rw[rl];exact hj.imp ((jR hq).2 j) ((Ac hp).2 j)
 |cond c x y jR Ac=>
  intro rm S r h;simp only[comp] at h;split at h
  case h_2=>cases h;exact nF
  rename_i e _;simp only[aJ,aT] at h;obtain⟨q,hq,p,hp,rfl⟩:=h;cases hm:nk q.out p.out<;>simp only[hm]
  .refine⟨λt ht=>?_,λj hj=>?_⟩
   .simp only[PC.modR,dT,yN] at ht;rw[gT,lZ];exact ht.imp ((jR hq).1 t) ((Ac hp).1 t)
   .simp only[PC.modO,dT,yN] at hj;rw[rl];exact hj.imp ((jR hq).2 j) ((Ac hp).2 j)
  .refine⟨λt ht=>?_,λj hj=>?_⟩
   .simp only[PC.modR,dT] at ht;rw[gT,lZ];rcases ht with(ht|ht)|ht
    .have:=Ol ht;rw[gT,lZ] at this;exact this
    .exact .inl ((jR hq).1 t ht)
    .exact .inr ((Ac hp).1 t ht)
   .simp only[PC.modO,dT] at hj;rcases hj with(hj|hj)|hj
    .exact DD hj
    .exact rl.2 (.inl ((jR hq).2 j hj))
    .exact rl.2 (.inr ((Ac hp).2 j hj))
 |block id x jR=>
  intro rm S r h;simp only[comp] at h;cases cU:Nat.beq id db<;>simp only[cU,zyv,zyu] at h
  case true=>cases h;exact nF
  simp only[aT] at h;obtain⟨q,hq,rfl⟩:=h;exact aeU (jR hq)
 |loop x jR=>
  intro rm S r h;rw[afe] at h;split at h
  .exact azf h
  split at h
  case h_2=>cases h;exact nF
  rename_i q hq;cases h;have hs:=(Hi (C:=C) (w0:=default) (σ0:=Base.mk0 ⟨λ_ _=>none,λ_=>none⟩ 0) (ids:=ids) 8 hq).1;refine⟨λt ht=>?_,λj hj=>?_⟩
  .simp only[PC.modR,dT] at ht;exact ht.elim Ol ((jR hs).1 t)
  .simp only[PC.modO,dT] at hj;exact hj.elim DD ((jR hs).2 j)
 |exit id=>
  intro rm S r h;simp only[comp] at h;cases cU:Nat.beq id db<;>simp only[cU,zyv,zyu] at h<;>cases h
  .simp[PC.modR,PC.modO]
  .exact nF
 |ret=>
  intro rm S r h;simp only[comp] at h;cases rm<;>simp only[zyv,zyu] at h
  case true=>cases h;simp[PC.modR,PC.modO]
  split at h
  .cases h;simp[PC.modR,PC.modO]
  .cases h;exact nF
 |rangeFunc g ps x y _ _=>
  intro rm S r h;simp only[comp] at h;split at h
  case h_2=>cases h;exact nF
  split at h
  case h_2=>cases h;exact nF
  split at h
  case h_2=>cases h;exact nF
  rename_i q hq;rw[qB] at h;split at h
  .cases h;refine⟨λt ht=>?_,λj hj=>?_⟩
   .simp[PC.modR,PI.modR] at ht;subst ht;exact sk _
   .simp only[PC.modO,PI.modO,EG,List.flatMap_nil,tU,yN] at hj;exact(gz.1 hj).1
  .cases h;exact nF
 |_=>intro rm S r h;simp only[comp,bx] at h;subst h;exact nF
def il.mono {rm:Bool}{wr:Nat->Prop}{a0 a1:Act}{out alr:Option Snap}{ex ex':List (Nat×Snap)}{x:Out}{e:Exit}(h:il C w0 σ0 ids fn s rm wr a0 out ex x e a w)(he:∀y,y∈ex->y∈ex')(hs:SameBut wr a1 a0)
 (ho:e=.normal->alr=out):il C w0 σ0 ids fn s rm wr a1 alr ex' x e a w:=by
 cases e with
 |normal=>obtain⟨Z,S,h1,h2,h3,h4⟩:=h;exact⟨Z,S,h1,by rw[ho rfl];exact h2,hs.trans h3,h4⟩
 |exit id=>obtain⟨Z,S,h1,h2,h3,h4,h5⟩:=h;exact⟨Z,S,h1,h2,he _ h3,hs.trans h4,h5⟩
 |ret=>
  cases rm with
  |false=>obtain⟨d,h1,h2,h3⟩:=h;exact⟨d,h1,h2,hs.trans h3⟩
  |true=>obtain⟨Z,S,h1,h3,h4,h5⟩:=h;exact⟨Z,S,h1,he _ h3,hs.trans h4,h5⟩
 |_=>exact h.elim
def afB {body:Env->Option Out}{Z:Env}{ps lo:List Nat}{rt:Option PE}{x:Out}:∀{xs vo:List D},jn body Z ps lo rt xs vo=some x->
 ∃(m:Nat) (nG:Nat->List D),m<=xs.length/\nG 0=vo/\
  (∀i,i<m->∃y Z',xs[i]?=some y/\body (Z.put ps (partsOf ps y) lo (nG i))=some (.next Z')/\lo.map Z'.o=nG (i+1))/\
  ((m=xs.length/\x=.next (Z.put [] [] lo (nG m)))\/
   (m<xs.length/\∃y id Z',xs[m]?=some y/\body (Z.put ps (partsOf ps y) lo (nG m))=some (.exit id Z')/\
    ((id≠db/\x=.exit id (Z.put [] [] lo (lo.map Z'.o)))\/(id=db/\∃e,rt=some e/\x=.ret (e.ev (Z.put [] [] lo (lo.map Z'.o)))))))
 |[],vo,h=>by
  simp only[jn,bx] at h;exact⟨0,λ_=>vo,bL _,rfl,λi hi=>by omega,.inl ⟨rfl,h.symm⟩⟩
 |y::xs,vo,h=>by
  simp only[jn] at h;split at h
  .rename_i Z' hb;obtain⟨m,nG,h1,h2,h3,h4⟩:=afB h;refine⟨m+1,λi=>match i with|0=>vo|i+1=>nG i,by simp;omega,rfl,λi hi=>?_,?_⟩
   .cases i with
    |zero=>exact⟨y,Z',rfl,hb,h2.symm⟩
    |succ i=>simpa using h3 i (by omega)
   .rcases h4 with⟨e1,e2⟩|⟨e1,z,id,ρ2,e2,e3,e4⟩
    .exact .inl ⟨by simp[e1],e2⟩
    .exact .inr ⟨by simp;omega,z,id,ρ2,by simpa using e2,e3,e4⟩
  .rename_i id Z' hb;refine⟨0,λ_=>vo,vU _,rfl,λi hi=>by omega,.inr ⟨by simp,y,id,Z',rfl,hb,?_⟩⟩;cases cU:Nat.beq id db<;>simp only[cU,zyv,zyu] at h
   .refine .inl ⟨λe=>?_,(EO h).symm⟩;subst e;simp at cU
   .simp only[aT] at h;obtain⟨e,he,e2⟩:=h;exact .inr ⟨aK cU,e,he,e2.symm⟩
  .cases h
def aeR {l:List Nat}{t:Nat}(h:t∈l):aW (Ap l) t=true:=by
 induction l with
 |nil=>cases h
 |cons x l ih=>
  have e:Ap (x::l)=Nat.lor (ir x) (Ap l):=rfl;rw[e,gT];rcases dG.1 h with e|e
  .subst e;rw[sk];rfl
  .rw[ih e];simp
def V0 (m:Nat):∀(l:List Sh) (k t:Nat),(u7 m k l).getD t .none=if aW m (k+t)=true then .none else l.getD t .none
 |[],k,t=>by simp[u7]
 |s::l,k,0=>by
  simp only[u7,yM,qE];cases aW m k<;>rfl
 |s::l,k,t+1=>by
  simp only[u7,JR];rw[V0 m l (k+1) t,show k+1+t=k+(t+1) by omega]
def Hr (m:Nat)(S:Snap)(t:Nat):((S.mask m).st ids).r t=if aW m t=true then .none else(S.st ids).r t:=by
 show cW ((u7 m 0 S.rs).getD t .none)=if aW m t=true then .none else cW (S.rs.getD t .none);rw[V0,jh];split<;>rfl
def azk {m:Nat}{x S:Snap}{t:Nat}(h:aW m t=true):((x.meet (S.mask m)).st ids).r t=.none:=by
 show cW ((List.zipWith jT x.rs (u7 m 0 S.rs)).getD t .none)=.none;rcases Rj (f:=jT) x.rs (u7 m 0 S.rs) t with h0|⟨s,u,h1,h2,h3⟩
 .rw[h0];rfl
 .rw[V0,jh,if_pos h] at h2;subst h2;rw[h3];cases s<;>rfl
def Inv.maskR {S:Snap}{hv:Nat->Value}(h:Inv C (S.st ids) Z H own hv w0 σ0 A a w)(m:Nat):Inv C ((S.mask m).st ids) Z H own hv w0 σ0 (λ_=>False) a w:=by
 have hc:Compat (S.st ids) hv ((S.mask m).st ids) hv:=⟨λ_=>bL _,λ_ _=>rfl⟩
 refine h.weaken (λt=>?_) (λj=>?_) (Snap.noOpt _ _) (λj hj=>⟨hj,rfl⟩)
 .refine ba.mono' (Z:=Z) (.refl H) hc (Snap.noOpt _ _ t) ?_;rw[Hr];split
  .trivial
  .exact h.regs t
 .exact(h.objs j).mono (.refl H) hc rfl rfl (λk hk=>⟨hk,rfl⟩)
def ZU:∀(ps:List Nat) (ys:List Ty) (l:List Sh),ps.length=ys.length->nm ps=true->∀t,(tD ps ys l).getD t .none=.none\/(t∉ps/\(tD ps ys l).getD t .none=l.getD t .none)\/∃(i:Nat) (y:Ty),ps[i]?=some t/\ys[i]?=some y/\(tD ps ys l).getD t .none=.dat y
 |[],ys,l,_,_,t=>.inr (.inl ⟨by simp,by cases ys<;>rfl⟩)
 |p::ps,[],l,h,_,t=>by simp at h
 |p::ps,y::ys,l,h,hn,t=>by
  have jw:=va hn;rw[vQ] at jw;have eJ:nm ps=true:=by
   simp only[nm,aA] at hn;exact hn.2
  show(tD ps ys (l.set p (.dat y))).getD t .none=_\/_\/_;rcases ZU ps ys (l.set p (.dat y)) (by simpa using h) eJ t with e|⟨e1,e2⟩|⟨i,z,e1,e2,e3⟩
  .exact .inl e
  .by_cases hp:t=p
   .subst hp;by_cases aq:t<l.length
    .exact .inr (.inr ⟨0,y,rfl,rfl,by show(tD ps ys (l.set t (.dat y))).getD t .none=_;rw[e2];simp[bn,aq]⟩)
    .left;rw[e2];simp[bn,aq]
   .refine .inr (.inl ⟨by simp[hp,e1],?_⟩);show(tD ps ys (l.set p (.dat y))).getD t .none=_;rw[e2];simp only[bn,EH];rw[if_neg (λe=>hp e.symm)]
  .exact .inr (.inr ⟨i+1,z,by simpa using e1,by simpa using e2,e3⟩)
def nC:List Nat->List Value->Array Value->Array Value
 |p::ps,v::vs,T=>nC ps vs (T.setIfInBounds p v)
 |_,_,T=>T
def aCC (ps:Array Nat)(vs:Array Value)(T:Array Value):(ps.zip vs).foldl (λT x=>T.setIfInBounds x.1 x.2) T=nC ps.toList vs.toList T:=by
 rw[<-Array.foldl_toList,Array.toList_zip];generalize ps.toList=l;generalize vs.toList=k
 induction l generalizing k T with
 |nil=>rfl
 |cons p l ih=>
  cases k with
  |nil=>rfl
  |cons v k=>simpa [nC] using ih (T.setIfInBounds p v) k
def anw:∀(ps:List Nat) (vs:List Value) (T:Array Value),(nC ps vs T).size=T.size
 |[],vs,T=>by cases vs<;>rfl
 |p::ps,[],T=>rfl
 |p::ps,v::vs,T=>by simp[nC,anw ps vs]
def QB:∀(ps:List Nat) (vs:List Value) (T:Array Value) (t:Nat),t∉ps->(nC ps vs T).getD t undef=T.getD t undef
 |[],vs,T,t,_=>by cases vs<;>rfl
 |p::ps,[],T,t,_=>rfl
 |p::ps,v::vs,T,t,h=>by
  simp only[dG,not_or] at h;simp only[nC];rw[QB ps vs _ t h.2];simp only[iK,Ew];rw[if_neg (λe=>h.1 e.symm)]
def anv:∀(ps:List Nat) (vs:List Value) (T:Array Value) (i t:Nat),ps.Nodup->ps.length=vs.length->(∀p,p∈ps->p<T.size)->ps[i]?=some t->(nC ps vs T).getD t undef=vs.getD i undef
 |p::ps,v::vs,T,0,t,hn,hl,aq,h=>by
  simp at h;subst h;rw[vQ] at hn;simp only[nC];rw[QB ps vs _ p hn.1];simp[Ew,aq p (gy ..)]
 |p::ps,v::vs,T,i+1,t,hn,hl,aq,h=>by
  rw[vQ] at hn;simp only[nC];have:=anv ps vs (T.setIfInBounds p v) i t hn.2 (by simpa using hl) (λq hq=>by simpa using aq q (fY _ hq)) (by simpa using h);simpa using this
 |p::ps,[],T,i,t,hn,hl,aq,h=>by simp at hl
 |[],vs,T,i,t,hn,hl,aq,h=>by simp at h
def DT (f:Nat->D):∀(ps:List Nat) (vs:List D) (t:Nat),t∉ps->putL f ps vs t=f t
 |[],vs,t,_=>by cases vs<;>rfl
 |p::ps,[],t,_=>rfl
 |p::ps,v::vs,t,h=>by
  simp only[dG,not_or] at h;simp only[putL,bU _ _ h.1];exact DT f ps vs t h.2
def XG (f:Nat->D):∀(ps:List Nat) (vs:List D) (i t:Nat),ps.Nodup->ps.length=vs.length->ps[i]?=some t->putL f ps vs t=vs.getD i .none
 |p::ps,v::vs,0,t,hn,hl,h=>by
  simp at h;subst h;simp[putL,bh]
 |p::ps,v::vs,i+1,t,hn,hl,h=>by
  rw[vQ] at hn;have ht:t∈ps:=tZ (by simpa using h);have aI:t≠p:=λe=>hn.1 (e▸ht);simp only[putL,bU _ _ aI];have:=XG f ps vs i t hn.2 (by simpa using hl) (by simpa using h);simpa using this
 |p::ps,[],i,t,hn,hl,h=>by simp at hl
 |[],vs,i,t,hn,hl,h=>by simp at h
def aAz (ps:List Nat)(ds:List D)(i:Nat)(h:i<ps.length):(partsOf ps (.tup ds)).getD i .none=ds.getD i .none:=by
 simp[partsOf,bn,h,D.tget]
def aAy (ps:List Nat)(x:D):(partsOf ps x).length=ps.length:=by simp[partsOf]
def Inv.startR {S:Snap}{hv:Nat->Value}(h:Inv C (S.st ids) Z H own hv w0 σ0 A a w){ps:List Nat}{ys:List Ty}{args:List Value}{ds:List D}{lo:List Nat}{vo:List D}(hl:ps.length=ys.length)(bX:nm ps=true)(aq:∀p,p∈ps->p<a.tmps.size)(ha:rV C H ys args ds)
 (hρ:Z=Z'.put [] [] lo vo):Inv C ((S.start ps ys).st ids) (Z'.put ps (partsOf ps (.tup ds)) lo vo) H own hv w0 σ0 (λ_=>False) {tmps:=nC ps args a.tmps,defers:=[]} w:=by
 obtain⟨a1,a2,a3⟩:=ha;have hn:=va bX;have hc:Compat (S.st ids) hv ((S.start ps ys).st ids) hv:=⟨λ_=>bL _,λ_ _=>rfl⟩
 have ho:∀j,(Z'.put ps (partsOf ps (.tup ds)) lo vo).o j=Z.o j:=λj=>by rw[hρ];rfl
 refine⟨trivial,h.ok,h.le,h.old,h.newc,h.newm,h.below,h.bw,h.owns,λt=>?_,λj=>(h.objs j).mono (.refl H) hc rfl (ho j) (λk hk=>⟨hk,rfl⟩),λt gs s e=>absurd e (Snap.noOpt _ _ t gs s),?_⟩
 .show ba C _ _ H hv (cW ((tD ps ys (S.rs.map uJ)).getD t .none)) ((nC ps args a.tmps).getD t undef) (putL Z'.r ps (partsOf ps (.tup ds)) t);rcases ZU ps ys (S.rs.map uJ) hl bX t with e|⟨e1,e2⟩|⟨i,y,e1,e2,e3⟩
  .rw[e];trivial
  .rw[e2,QB _ _ _ _ e1,DT _ _ _ _ e1];have hr:=h.regs t;change ba C _ Z H hv (cW (S.rs.getD t .none)) _ _ at hr;have hρr:Z.r t=Z'.r t:=by rw[hρ];show putL Z'.r [] [] t=_;rfl
   rw[hρr] at hr;have e3:(S.rs.map uJ).getD t .none=uJ (S.rs.getD t .none):=by
        simp only[bn,dF];cases S.rs[t]?<;>rfl
   rw[e3];generalize S.rs.getD t .none=s at hr;cases s with
   |yv=>trivial
   |opt gs s=>trivial
   |none=>trivial
   |fclo f c=>exact ba.mono' (.refl H) hc (λ_ _ e=>by cases e) hr
   |agg l=>exact ba.mono' (.refl H) hc (λ_ _ e=>by cases e) hr
   |dat t=>exact hr
   |obj j v=>exact ba.mono' (.refl H) hc (λ_ _ e=>by cases e) hr
   |ptr j v o=>exact ba.mono' (.refl H) hc (λ_ _ e=>by cases e) hr
   |eptr j v o q=>exact ba.mono' (.refl H) hc (λ_ _ e=>by cases e) hr
  .rw[e3];have hi:i<ps.length:=(jF.1 e1).1;rw[anv ps args a.tmps i t hn (by omega) aq e1,XG _ ps _ i t hn (by rw[aAy]) e1,aAz _ _ _ hi];exact a3 i y e2
 .obtain⟨t,fx,cx,h1,h2⟩:=h.frame;exact⟨t,fx,cx,h1,λj hj=>⟨(h2 j hj).1,by rw[ho j];exact(h2 j hj).2⟩⟩
def yQ (C:Ctx)(V:bf)(fn:Func)(s:Sig)(n:Nat)(ids:List Nat)(R:Array Oper->Bool->Snap->Option (Snap×List PI))(N:Nat)(c:Code):Prop:=
 ∀(rm:Bool) (S:Snap) (r:Res2),comp C fn s n ids R rm c S=some r->∀(rd:Option Nat) (w0:World) (σ0:Base) (wr:Nat->Prop) (Z:Env) (x:Out) (a:Act) (w:World),(rm=false->rd=none/\σ0.fin)->CtxOK C σ0->ud C V w0 σ0->(∀t,t∈cX c->wr t)->a.tmps.size=n->
  Good C w0 σ0 (S.st ids) Z (λ_=>False) a w->r.pc.ev V N Z=some x->c.wpIn (FR rd) 0 C.P (il C w0 σ0 ids fn s rm wr a r.out r.ex x) a w
structure Seg (H:Im) (own:Nat->Option Nat) (w:World) (H':Im) (own':Nat->Option Nat) (w':World):Prop where
 le:H.le H'
 below:Below 0 w w'
 same:∀k,k<w.heap.size->own k=none->w'.heap[k]?=w.heap[k]?
 ow:∀k j,own' k=some j->(∃i,own k=some i)\/w.heap.size<=k
 imm:∀k,((∃o x,H'.c k o=some x)\/∃x,H'.m k=some x)->(∃o x,H.c k o=some x)\/(∃x,H.m k=some x)\/(∃i,own k=some i)\/w.heap.size<=k
structure Free (L:Nat) (H:Im) (own:Nat->Option Nat):Prop where
 own:own L=none
 c:∀o,H.c L o=none
 m:H.m L=none
def Free.seg {L:Nat}{H':Im}{own':Nat->Option Nat}{w':World}(h:Free L H own)(hL:L<w.heap.size)(k:Seg H own w H' own' w'):Free L H' own':=by
 have GC:¬((∃o x,H'.c L o=some x)\/∃x,H'.m L=some x):=λe=>by
  rcases k.imm L e with⟨o,x,e⟩|⟨x,e⟩|⟨i,e⟩|e
  .rw[h.c o] at e;cases e
  .rw[h.m] at e;cases e
  .rw[h.own] at e;cases e
  .omega
 refine⟨?_,λo=>?_,?_⟩
 .cases e:own' L with
  |none=>rfl
  |some j=>
   rcases k.ow L j e with⟨i,e⟩|e
   .rw[h.own] at e;cases e
   .omega
 .cases e:H'.c L o with
  |none=>rfl
  |some x=>exact absurd (.inl ⟨o,x,e⟩) GC
 .cases e:H'.m L with
  |none=>rfl
  |some x=>exact absurd (.inr ⟨x,e⟩) GC
def apd (C:Ctx)(w0:World)(σ0:Base)(ids:List Nat)(wr:Nat->Prop)(a0:Act)(H:Im)(own:Nat->Option Nat)(w:World)(out:Option Snap)(ex:List (Nat×Snap))(x:Out)(e:Exit)(a':Act)(w':World):Prop:=
 ∃Z' S' H' own' hv',Inv C (S'.st ids) Z' H' own' hv' w0 σ0 (λ_=>False) a' w'/\Seg H own w H' own' w'/\SameBut wr a0 a'/\
  match e with
  |.normal=>x=.next Z'/\out=some S'
  |.exit id=>x=.exit id Z'/\id≠db/\(id,S')∈ex
  |.ret=>x=.exit db Z'/\(db,S')∈ex
  |_=>False
def ans {N:Nat}{c:Code}(hc:yQ C V fn s n ids R N c){S:Snap}{r:Res2}(hr:comp C fn s n ids R true c S=some r)(oP:C.yl=none)(hC:CtxOK C σ0){wr:Nat->Prop}{Z:Env}{x:Out}{hv:Nat->Value}(h:Inv C (S.st ids) Z H own hv w0 σ0 (λ_=>False) a w)
 (iW:∀t,t∈cX c->wr t) (hn:a.tmps.size=n) (he:r.pc.ev V N Z=some x) (L:Nat):c.wpIn (FR (some L)) 0 C.P (apd C w0 σ0 ids wr a H own w r.out r.ex x) a w:=by
 obtain⟨t,fx,cx,gE,ht⟩:=h.frame;have h1:=h.toRnd (X:=λ_=>False) ht;refine wpIn_mono (hc true S r hr (some L) w0 (σ0.rnd H own w t λ_=>False) wr Z x a w (λe=>by cases e) (hC.mono h.le) (λJ ys e=>by rw[oP] at e;cases e) iW hn ⟨_,_,_,h1⟩ he) λe a' w' ho=>?_
 have main:∀{S':Snap} {Z':Env},SameBut wr a a'->Good C w0 (σ0.rnd H own w t λ_=>False) (S'.st ids) Z' (λ_=>False) a' w'->∃H' own' hv',Inv C (S'.st ids) Z' H' own' hv' w0 σ0 (λ_=>False) a' w'/\Seg H own w H' own' w'/\SameBut wr a a':=by
  intro S' Z' hs hg;obtain⟨H',own',hv',h2⟩:=hg;exact⟨H',own',hv',h.ofRnd gE (λ_ _=>id) h2,⟨h2.le,h.rndBelow h2,λk hk ho=>Inv.rndSame h.ok h2 hk ho id,λk j e=>Inv.rndOwn h2 e id,λk e=>Inv.rndC h2 e id⟩,hs⟩
 cases e with
 |normal=>
  obtain⟨Z',S',e1,e2,e3,e4⟩:=ho;obtain⟨H',own',hv',g1,g2,g3⟩:=main e3 e4;exact⟨Z',S',H',own',hv',g1,g2,g3,e1,e2⟩
 |exit id=>
  obtain⟨Z',S',e1,e0,e2,e3,e4⟩:=ho;obtain⟨H',own',hv',g1,g2,g3⟩:=main e3 e4;exact⟨Z',S',H',own',hv',g1,g2,g3,e1,e0,e2⟩
 |ret=>
  obtain⟨Z',S',e1,e2,e3,e4⟩:=ho;obtain⟨H',own',hv',g1,g2,g3⟩:=main e3 e4;exact⟨Z',S',H',own',hv',g1,g2,g3,e1,e2⟩
 |_=>exact ho.elim
def Inv.putL {L:Nat}{hv:Nat->Value}{S:St}{Z:Env}(h:Inv C S Z H own hv w0 σ0 A a w)(hL:w0.heap.size<=L)(hf:Free L H own)(hx:∀t fx cx,FrOK H own w0.heap.size σ0 w t fx cx->¬fx L)(o:Obj):Inv C S Z H own hv w0 σ0 A a (w.putObj L o):=
 h.keep (X:=λk=>k≠L) ⟨rfl,rfl,rfl,by simp,λk hk=>by omega⟩ (λk hk=>World.putObj_heap_other hk) (λk hk=>by omega) (λk j e1 e2=>by subst e2;rw[hf.own] at e1;cases e1) (λk o v e1 e2=>by subst e2;rw[hf.c] at e1;cases e1)
  (λk v e1 e2=>by subst e2;rw[hf.m] at e1;cases e1) (λt fx cx gE k hk e=>by subst e;exact hx t fx cx gE hk)
def aHA {o:Oper}{L:Nat}{x:Operand}{aa:Array Operand}{ts:Array TypeId}{r:Loop}(dB:o.op=.call {callee:=.value x,args:=aa,argTypes:=ts})(hx:a.eval x=.func (.yield L) #[] #[])(hL:w.heap[L]?=some (.loop r))(hs:aa.size=r.params.size):
 (execOp a.eval o).run C.P w=.ok (.round L r.fn ((r.params.zip (aa.map a.eval)).foldl (λtmps (t,v)=>tmps.setIfInBounds t v) r.tmps) r.assign r.body) w:=by
 have hy:=run_yield (P:=C.P) (args:=aa.map a.eval) hL (by simpa using hs);simp[execOp,dB,resolve,hx,Deferred.ofValue,invoke,hy]
def aBJ {g:Operand}{f:Nat}{vs:List Value}{L:Nat}(hf:∃fn,C.P.funcs[f]?=some fn/\fn.body.isSome=true/\(fn.name== "runtime.NumGoroutine")=false)(hg:a.eval g=.func (.func f) #[] vs.toArray):
 (resolve a.eval (rangeCall g L) 0).run C.P w=.ok {target:=.fn (.func f) vs.toArray,args:=#[.func (.yield L) #[] #[]]} w/\
 (invoke (.fn (.func f) vs.toArray) #[.func (.yield L) #[] #[]]).run C.P w=.ok (.enter f (#[.func (.yield L) #[] #[]]++vs.toArray)) w:=by
 obtain⟨fn,h1,h2,h3⟩:=hf;obtain⟨bd,gf⟩:=aet.1 h2;have h4:¬fn.name= "runtime.NumGoroutine" :=by simpa using h3
 constructor
 .simp only[resolve,hg];simp[go_sem]
 .simp[invoke,callFunc,h1,gf,h4]
def FrOK.enter {hv:Nat->Value}{S:St}{Z:Env}(h:Inv C S Z H own hv w0 σ0 A a w){t:D}{fx cx:Nat->Prop}(hf:FrOK H own w0.heap.size σ0 w t fx cx)(r:Loop):FrOK (H.mark w.heap.size) own w0.heap.size σ0 ((w.alloc (.deferred (some []))).alloc (.loop r)) t fx cx:=by
 have hb:=afD w (.deferred (some [])) (.loop r);have aq:=σ0.lt _ _ _ _ hf.F;have cZ:=σ0.sub _ _ _ _ hf.F;have lH:∀k x,(H.mark w.heap.size).m k=some x->H.m k=some x\/k=w.heap.size:=by
  intro k x e;simp only[Im.mark] at e;split at e
  .rename_i e2;exact .inr e2
  .exact .inl e
 refine⟨σ0.keep _ _ _ _ _ hf.F (hb.mono (vU _)) λk hk=>hb.block k (aq k hk),hf.own,hf.c,λk x e hc=>?_,λk e hB hk=>?_⟩
 .rcases lH k x e with e|e
  .exact hf.m k x e hc
  .have:=aq k (cZ k hc);omega
 .rcases lH k _ e with e|e
  .exact hf.d k e hB hk
  .have:=aq k hk;omega
structure RSt (C:Ctx) (w0:World) (σR:Base) (ids:List Nat) (ρ1:Env) (lo:List Nat) (aM:Act) (L:Nat) (W1:World) (H1:Im) (rec:LoopState->Option Code->Loop) (xs:List D) (P:Nat->List D->Snap->LoopState->Option Code->Prop) (t:D) (fx cx:Nat->Prop) (w:World):Prop where
 lt:∀k,fx k->k<w.heap.size
 sub:∀k,cx k->fx k
 old:∀k,k<W1.heap.size->fx k
 ex:∃(i:Nat) (vo:List D) (Sx:Snap) (st:LoopState) (pe:Option Code) (H:Im) (own:Nat->Option Nat) (hv:Nat->Value),t=.list (xs.take i)/\P i vo Sx st pe/\Inv C (Sx.st ids) (ρ1.put [] [] lo vo) H own hv w0 σR (λ_=>False) aM w/\
  H1.le H/\Free L H own/\w.heap[L]?=some (.loop (rec st pe))/\(∀k j,own k=some j->fx k)/\(∀k o x,H.c k o=some x->fx k)/\(∀k x,H.m k=some x->fx k)/\∀k,cx k↔((∃j,own k=some j)\/k=L)
def RSt.keep {σR:Base}{ρ1:Env}{lo:List Nat}{aM:Act}{L:Nat}{W1:World}{H1:Im}{rec:LoopState->Option Code->Loop}{xs:List D}{P:Nat->List D->Snap->LoopState->Option Code->Prop}{t:D}{fx cx:Nat->Prop}{w w':World}
 (h0:w0.heap.size<=W1.heap.size) (hL:L<W1.heap.size) (hR:∀t f c w,σR.F t f c w->∀k,f k->k<W1.heap.size) (h:RSt C w0 σR ids ρ1 lo aM L W1 H1 rec xs P t fx cx w) (hb:Below 0 w w') (hs:∀k,fx k->w'.heap[k]?=w.heap[k]?):
 RSt C w0 σR ids ρ1 lo aM L W1 H1 rec xs P t fx cx w':=by
 obtain⟨i,vo,Sx,st,pe,H,own,hv,e1,e2,e3,e4,e5,e6,e7,e8,e9,e10⟩:=h.ex;refine⟨λk hk=>EM (h.lt k hk) hb.size,h.sub,h.old,i,vo,Sx,st,pe,H,own,hv,e1,e2,?_,e4,e5,(hs L (h.old L hL)).trans e6,e7,e8,e9,e10⟩;exact e3.keep (X:=fx) hb hs (λk hk=>h.old k (by omega)) e7 e8 e9 (λt f c hf k hk=>h.old k (hR _ _ _ _ hf.F k hk))
def Im.noM_m {H:Im}{k:Nat}{v:List (Value×Value)}(h:H.noM.m k=some v):H.m k=some v/\v≠fZ:=by
 simp only[Im.noM] at h;split at h
 .cases h
 .rename_i aI;exact⟨h,λe=>aI (by rw[h,e])⟩
structure SegL (L:Nat) (H:Im) (own:Nat->Option Nat) (w:World) (H':Im) (own':Nat->Option Nat) (w':World):Prop where
 le:H.le H'
 below:Below 0 w w'
 same:∀k,k<w.heap.size->own k=none->k≠L->w'.heap[k]?=w.heap[k]?
 ow:∀k j,own' k=some j->(∃i,own k=some i)\/w.heap.size<=k
 imm:∀k,((∃o x,H'.c k o=some x)\/∃x,H'.m k=some x)->(∃o x,H.c k o=some x)\/(∃x,H.m k=some x)\/(∃i,own k=some i)\/w.heap.size<=k
def alE (w:World)(L:Nat)(o:Obj):Below 0 w (w.putObj L o):=⟨rfl,rfl,rfl,by simp,λk hk=>by omega⟩
def Seg.round {L:Nat}{H' H'':Im}{own' als:Nat->Option Nat}{w' lX:World}{o o':Obj}(h:Seg H own w H' own' w')(k:Seg H' own' (w'.putObj L o) H'' als lX):SegL L H own w H'' als (lX.putObj L o'):=by
 have bp:=h.below.size;have NZ:=k.below.size;simp only[World.putObj_size] at NZ;refine⟨h.le.trans k.le,h.below.trans ((alE _ _ _).trans (k.below.trans (alE _ _ _))),λq hq ho hL=>?_,λq j e=>?_,λq e=>?_⟩
 .have h1:own' q=none:=by
   cases e:own' q with
   |none=>rfl
   |some j=>
    rcases h.ow q j e with⟨i,e⟩|e
    .rw[ho] at e;cases e
    .omega
  rw[World.putObj_heap_other hL,k.same q (by simp;omega) h1,World.putObj_heap_other hL,h.same q hq ho]
 .rcases k.ow q j e with⟨i,e⟩|e
  .exact h.ow q i e
  .simp only[World.putObj_size] at e;exact .inr (by omega)
 .rcases k.imm q e with e|e|⟨i,e⟩|e
  .exact h.imm q (.inl e)
  .exact h.imm q (.inr e)
  .rcases h.ow q i e with e|e
   .exact .inr (.inr (.inl e))
   .exact .inr (.inr (.inr e))
  .simp only[World.putObj_size] at e;exact .inr (.inr (.inr (by omega)))
def Env.put_self (Z:Env)(lo:List Nat):Z.put [] [] lo (lo.map Z.o)=Z:=by
 have h2:∀u,putL Z.o lo (lo.map Z.o) u=Z.o u:=λu=>by rw[vf];split<;>rfl
 show Env.mk Z.r (putL Z.o lo (lo.map Z.o))=Z;rw[funext h2]
def aBK {N:Nat}(gC:gP C V){g:Operand}{ps:Array Tmp}{ca cb:Code}(bS:yQ C V fn s n ids R N ca)(eW:yQ C V fn s n ids R N cb):yQ C V fn s n ids R N (.rangeFunc g ps ca cb):=by
 intro rm S r hr rd w0 σ0 wr Z x a w gl hC hY iW hn hg he;simp only[comp] at hr;split at hr
 case h_2=>cases hr;exact absurd he (nE _ _ _ _)
 rename_i aa rr e oP hu;split at hr
 case h_2=>cases hr;exact absurd he (nE _ _ _ _)
 rename_i ys xl;split at hr
 case h_2=>cases hr;exact absurd he (nE _ _ _ _)
 rename_i q hq;rw[qB] at hr;split at hr
 case isFalse=>cases hr;exact absurd he (nE _ _ _ _)
 rename_i zA;cases hr;simp only[aA] at zA;obtain⟨⟨⟨hl,bX⟩,aq⟩,GY⟩:=zA;have hl:=aK hl;have GY:=mO GY;obtain⟨hrd,qY⟩:=gl rfl;subst hrd;obtain⟨hs,C2,_⟩:=Hi (C:=C) (w0:=w0) (σ0:=σ0) (ids:=ids) 8 hq;simp only[aJ] at hs;obtain⟨ra,Ve,hs⟩:=hs;split at hs
 case h_2=>cases hs
 rename_i S1 hao hax;simp only[aT] at hs;obtain⟨rb,hrb,eM⟩:=hs;have hma:=wh ca Ve;have hmb:=wh cb hrb;obtain⟨q1,q2⟩:=q;simp only at Ve eM GY C2 he ⊢;generalize m8:aim ids (q1::q2.ex.map (·.2)) q2.mo=lo at he;generalize uQ:((qf db q2.ex none).bind λM=>AN C fn s (M.st ids))=rt at he;have GR:∃f caps d,e.ev Z=.clo f caps/\V f caps=some d/\jn (q2.pc.ev V N) (Z.setR n d) ps.toList lo rt d.l (lo.map Z.o)=some x:=by
  simp only[PC.ev,PI.runs,PI.run,holds,List.all_nil,zyv] at he;cases cf:e.ev Z with
  |clo f caps=>
   rw[cf] at he;simp only[PE.evs,yN] at he;cases hΦ:V f caps with
   |none=>rw[hΦ] at he;simp at he
   |some d=>
    rw[hΦ] at he;simp only[ll,yP,PE.ev,Env.setR,bh] at he;exact⟨f,caps,d,rfl,hΦ,he⟩
  |_=>rw[cf] at he;simp at he
 obtain⟨f,caps,d,cf,hΦ,he⟩:=GR;obtain⟨H,own,hv,i⟩:=hg;have hx:=cM (gs:=[]) i hC rfl hu;rw[cf] at hx;generalize hgv:a.eval g=gv at hx;generalize bt:Ty.fn aa rr=ty at hx;cases hx with
 |fn f cs vs ds CZ h1 h2 bj=>
 cases bt;obtain⟨qZ,au2⟩:=gC f cs ys CZ xl;obtain⟨xs,rfl,aM2,UP⟩:=au2 caps d hΦ;simp only[D.l_list] at he;obtain⟨m,nG,hm,jx,NP,gZ⟩:=afB he;have iq0:=ahP 8 hq i
 have iq:Inv C (q1.st ids) (Z.setR n (.list xs)) H own hv w0 σ0 (λ_=>False) a w:=by
  refine iq0.env (Snap.noOpt _ _) (λt ht=>?_) (λ_ _=>rfl);have aq:t<q1.rs.length:=by
   refine aer λhle=>?_;simp only[Snap.st,bn,tX hle,Option.getD_none,cW,isNone] at ht;cases ht
  simp[Env.setR,bU _ _ (show t≠n by omega)]
 obtain⟨ρ1,hρ1⟩:∃ρ1,Z.setR n (.list xs)=ρ1:=⟨_,rfl⟩
 rw[hρ1] at he iq NP gZ;have kl:Z.o=ρ1.o:=by rw[<-hρ1];rfl
 rw[kl] at jx;refine wpIn_rangeFunc ?_;intro TX aMF;obtain⟨L,aga⟩:∃L,w.heap.size+1=L:=⟨_,rfl⟩
 obtain⟨rec,fK⟩:∃rec:LoopState->Option Code->Loop,rec=λst pe=>{state:=st,pending:=pe,fn:=TX,tmps:=a.tmps,params:=ps,assign:=ca,body:=cb,defers:=w.heap.size}:=⟨_,rfl⟩
 have i1:=iq.enter (rec .ready none);obtain⟨t,fx0,cx0,agC,ht0⟩:=iq.frame;have auN:=σ0.lt _ _ _ _ agC.F;have UE:=FrOK.enter iq agC (rec .ready none);have aM0:=iq.below.size;have CS:Free L (H.mark w.heap.size) own:=by
  refine⟨?_,λo=>?_,?_⟩
  .cases e:own L with
   |none=>rfl
   |some j=>have:=(iq.owns L j e).2.1;omega
  .cases e:H.c L o with
   |none=>exact e
   |some x=>have:=iq.lt e;omega
  .simp only[Im.mark,show L≠w.heap.size by omega,if_false];cases e:H.m L with
   |none=>rfl
   |some x=>have:=iq.ltm e;omega
 have uL:H.le (H.mark w.heap.size):=by
  refine⟨λ_ _ _ e=>e,λk x e=>?_⟩;have:k≠w.heap.size:=by have:=iq.ltm e;omega
  simp[Im.mark,this,e]
 have hL1:((w.alloc (.deferred (some []))).alloc (.loop (rec .ready none))).heap[L]?=some (.loop (rec .ready none)):=by
  have:=World.alloc_heap_new (w.alloc (.deferred (some []))) (.loop (rec .ready none));rw[World.size_alloc,aga] at this;exact this
 obtain⟨W1,Ug⟩:∃W1,(w.alloc (.deferred (some []))).alloc (.loop (rec .ready none))=W1:=⟨_,rfl⟩
 have aMu:W1.heap.size=w.heap.size+2:=by rw[<-Ug];simp
 rw[Ug] at i1 UE hL1;have UC:(Instr.enterLoop TX a.tmps ps ca cb none).run C.P w=.ok (L,[{target:=.collected w.heap.size,args:=#[]}]) W1:=by
  rw[<-Ug,fK,<-aga];exact run_enterLoop_outer _ _ _ _ _
 obtain⟨H1,hσ1⟩:∃H1,H.mark w.heap.size=H1:=⟨_,rfl⟩
 rw[hσ1] at i1 UE CS uL;obtain⟨aM,Uh⟩:∃aM:Act,{a with defers:={target:=.collected w.heap.size,args:=#[]}::a.defers}=aM:=⟨_,rfl⟩
 have Gj:aM.tmps=a.tmps:=by rw[<-Uh]
 rw[Uh] at i1;have iR:=i1.toRnd (t:=t) (X:=λk=>k=L) ht0;obtain⟨σR,hσR⟩:∃σR,σ0.rnd H1 own W1 t (λk=>k=L)=σR:=⟨_,rfl⟩
 have wH:∀t' f c w',σR.F t' f c w'->(∀k,f k->k<W1.heap.size/\k≠L)/\∀k,c k->f k/\(∀o,H1.c k o=none)/\H1.m k=none:=by
  rw[<-hσR];rintro t' f c w' ⟨_,h2,h3,_⟩;exact⟨λk hk=>⟨((h2 k).1 hk).1,((h2 k).1 hk).2.2.2⟩,λk hk=>(h3 k).1 hk⟩
 have hRC:CtxOK C σR:=by rw[<-hσR];exact hC.mono i1.le
 rw[hσR] at iR
 obtain⟨P,hP⟩:∃P:Nat->List D->Snap->LoopState->Option Code->Prop,P=λi vo Sx st pe=>(i<=m/\vo=nG i/\Sx=q1/\st=.ready/\pe=none)\/
  (i=m+1/\m<xs.length/\st=.done/\∃y id Z',xs[m]?=some y/\q2.pc.ev V N (ρ1.put ps.toList (partsOf ps.toList y) lo (nG m))=some (.exit id Z')/\vo=lo.map Z'.o/\(id,Sx)∈q2.ex/\((id≠db/\pe=some (.exit id))\/(id=db/\pe=some .ret))):=⟨_,rfl⟩
 obtain⟨c1,c2⟩:=aBJ (C:=C) (w:=W1) (L:=L) qZ hgv;refine⟨L,[{target:=.collected w.heap.size,args:=#[]}],W1,_,W1,f,_,W1,UC,c1,λ_ _=>trivial,c2,(λe=>by cases e),?_⟩
 refine aeZ ((UP H1 W1 (.func (.yield L) #[] #[]) vs (RSt C w0 σR ids ρ1 lo aM L W1 H1 rec xs P) (λk=>k<W1.heap.size) (λk=>(∃j,own k=some j)\/k=L) m i1.ok (hC.mono i1.le) ⟨h1,h2,λj t e=>(bj j t e).mono uL⟩ hm
  (λt f c w h=>h.lt) (λt f c w h=>h.sub) (λt f c w w' h hb hs=>h.keep (by omega) (by omega) (λt f c w hF k hk=>((wH t f c w hF).1 k hk).1) hb hs) ?_ ?_ ?_ ?_).mono ?_)
 .refine⟨λk hk=>hk,λk hk=>?_,λk hk=>hk,0,nG 0,q1,.ready,none,H1,own,hv,by simp,by rw[hP];exact .inl ⟨vU _,rfl,rfl,rfl,rfl⟩,?_,.refl H1,CS,hL1,λk j e=>(iR.owns k j e).2.1,λk o x e=>iR.lt e,λk x e=>iR.ltm e,λk=>.rfl⟩
  .rcases hk with⟨j,e⟩|e
   .exact(iR.owns k j e).2.1
   .show k<W1.heap.size;omega
  .rw[jx,Env.put_self];exact iR
 .rintro k o x e (⟨j,hj⟩|rfl)
  .have:=(iR.owns k j hj).2.2.1 o;rw[e] at this;cases this
  .rw[CS.c] at e;cases e
 .rintro k x e (⟨j,hj⟩|rfl)
  .have:=(iR.owns k j hj).2.2.2;rw[e] at this;cases this
  .rw[CS.m] at e;cases e
 .intro i fx cx w1 σx args cO hi dY hF hσx mg jt kJ gG eK rd' o a' x' aa ts K Q dB cV agj hK;have aMH:i<xs.length:=(jF.1 dY).1;obtain⟨i',vo,Sx,st,pe,σa,Ax,hva,e1,e2,iA,NK,Gg,Nl,U7,hcA,GH,C0⟩:=hF.ex;have hii:i'=i:=by
   have h9:=congrArg List.length (congrArg D.l e1);simp only[D.l_list,eQ] at h9;omega
  subst hii;rw[hP] at e2;rcases e2 with⟨_,rfl,Gi,rfl,rfl⟩|⟨e2,_⟩
  case inr=>omega
  rw[Gi] at iA;have agb:L<w1.heap.size:=hF.lt L (hF.old L (by omega));have Nu:cx L:=(C0 L).2 (.inr rfl)
  have avz:∀k o v,σx.c k o=some v->Ax k=none:=λk o v e=>by
   cases e2:Ax k with
   |none=>rfl
   |some j=>exact absurd ((C0 k).2 (.inl ⟨j,e2⟩)) (jt k o v e)
  have avA:∀k v,σx.m k=some v->Ax k=none:=λk v e=>by
   cases e2:Ax k with
   |none=>rfl
   |some j=>exact absurd ((C0 k).2 (.inl ⟨j,e2⟩)) (kJ k v e)
  have hτok:σx.noM.ok w1:=⟨hσx.c,λk v e=>hσx.m k v (Im.noM_m e).1⟩
  have iB:=iA.joinIm (τ:=σx.noM) hτok (λk e=>(Im.noM_m e).2 rfl) avz (λk v e=>avA k v (Im.noM_m e).1)
   (λk o v e=>(gG k o v e).imp (λe=>NK.c k o v e) λe=>by omega) (λk v e=>(eK k v (Im.noM_m e).1).imp (λe=>NK.m k v e) λe=>by omega)
   (λt' f c hf=>⟨λk o v e hc=>by
        obtain⟨g1,g2,g3⟩:=(wH _ _ _ _ hf.F).2 k hc;rcases gG k o v e with e|e
        .rw[g2 o] at e;cases e
        .have:=((wH _ _ _ _ hf.F).1 k g1).1;omega,λk v e hc=>by
        obtain⟨g1,g2,g3⟩:=(wH _ _ _ _ hf.F).2 k hc;rcases eK k v (Im.noM_m e).1 with e|e
        .rw[g3] at e;cases e
        .have:=((wH _ _ _ _ hf.F).1 k g1).1;omega⟩)
  have hFB:Free L (σa.plus σx.noM) Ax:=by
   refine⟨Gg.own,λo=>?_,?_⟩
   .cases e:(σa.plus σx.noM).c L o with
    |none=>rfl
    |some v=>
     rcases Im.plus_c e with e|e
     .rw[Gg.c] at e;cases e
     .exact absurd Nu (jt L o v e)
   .cases e:(σa.plus σx.noM).m L with
    |none=>rfl
    |some v=>
     rcases Im.plus_m e with e|e
     .rw[Gg.m] at e;cases e
     .exact absurd Nu (kJ L v (Im.noM_m e).1)
  have zO:ps.toList.length=ys.length:=by rw[Ey];exact hl.symm
  have auk:rV C (σa.plus σx.noM) ys args cO:=⟨mg.1,mg.2.1,λj t e=>((mg.2.2 j t e).noM).mono (Im.plus_le2 iA.ok hτok)⟩
  have iC:=iB.startR (Z':=ρ1) zO bX (λp hp=>by
   have:=fe.1 aq p hp;rw[Gj,hn];simpa [qF] using this) auk rfl
  have Vc:∃xi,q2.pc.ev V N (ρ1.put ps.toList (partsOf ps.toList (.tup cO)) lo (nG i'))=some xi/\((i'<m/\∃Z',xi=.next Z'/\lo.map Z'.o=nG (i'+1))\/(i'=m/\m<xs.length/\∃id Z',xi=.exit id Z')):=by
   by_cases sE:i'<m
   .obtain⟨y,Z',g1,g2,g3⟩:=NP i' sE;rw[dY] at g1;cases g1;exact⟨_,g2,.inl ⟨sE,Z',rfl,g3⟩⟩
   .obtain rfl:i'=m:=by omega
    rcases gZ with⟨g1,_⟩|⟨g1,y,id,Z',g2,g3,_⟩
    .omega
    .rw[dY] at g2;cases g2;exact⟨_,g3,.inr ⟨rfl,g1,id,Z',rfl⟩⟩
  obtain⟨xi,uU,VF⟩:=Vc;have ab:q2.pc=.seq ra.pc rb.pc:=by rw[<-eM];rfl
  rw[ab] at uU;have bp:(nC ps.toList args aM.tmps).size=n:=by rw[anw,Gj,hn]
  refine⟨λ_ _=>trivial,?_⟩;rw[Oper.semAt_eq _ _ _ (λc e=>by rw[dB] at e;cases e)];have aul:aa.size=ps.size:=by
   have:=mg.1;rw[<-agj,nN,Ey] at this;omega
  have az:=aHA (C:=C) dB cV Nl (by rw[fK];exact aul);have av0:(rec .ready none).fn=TX/\(rec .ready none).tmps=a.tmps/\(rec .ready none).params=ps/\(rec .ready none).assign=ca/\(rec .ready none).body=cb:=by rw[fK];exact⟨rfl,rfl,rfl,rfl,rfl⟩
  obtain⟨r1,r2,r3,r4,r5⟩:=av0;rw[r1,r2,r3,r4,r5] at az
  have sL:(ps.zip (aa.map a'.eval)).foldl (λtmps (t,v)=>tmps.setIfInBounds t v) a.tmps=nC ps.toList args aM.tmps:=by
   rw[Gj,<-agj,<-JK];exact aCC ps (aa.map a'.eval) a.tmps
  rw[sL] at az;rw[az];refine⟨(λe=>by cases e),?_⟩;refine roundIn_of_wpIn (F:=FR rd') trivial ?_;show ca.wpIn (FR (some L)) 0 C.P _ _ _;cases lK:ra.pc.ev V N (ρ1.put ps.toList (partsOf ps.toList (.tup cO)) lo (nG i')) with
  |none=>simp only[PC.ev,lK] at uU;cases uU
  |some xa=>
  refine wpIn_mono (ans bS Ve oP hRC iC (wr:=λt=>t∈cX ca) (λ_ h=>h) bp lK L) λe2 a1 w1' awa=>?_;obtain⟨ρ2,S2,σ2,jV,iw,iD,dO,rh,kL⟩:=awa;cases e2 with
  |normal=>
   obtain⟨rfl,sy⟩:=kL;rw[hao] at sy;cases sy;simp only[PC.ev,lK] at uU;have hL2:w1'.heap[L]?=some (.loop (rec .ready none)):=(dO.same L agb hFB.own).trans Nl;have Uc:=hFB.seg agb dO;have Ud:L<w1'.heap.size:=(ij.1 hL2).1;have Nk:w0.heap.size<=L:=by omega
   refine⟨_,run_beginRound hL2 (by rw[fK]),?_⟩;have iE:=iD.putL Nk Uc (λt' f c hf Gv=>((wH _ _ _ _ hf.F).1 L Gv).2 rfl) (.loop {rec .ready none with state:=.busy});have hL3:(w1'.putObj L (.loop {rec .ready none with state:=.busy})).heap[L]?=some (.loop {rec .ready none with state:=.busy}):=World.putObj_heap_same Ud;show cb.wpIn (FR (some L)) 0 C.P _ _ _;refine wpIn_mono (ans eW hrb oP hRC iE (wr:=λt=>t∈cX cb) (λ_ h=>h) (rh.size.trans bp) uU L) λe3 a3 w3 awb=>?_;obtain⟨ρ3,S3,σ3,Aw,G6,iF,p7,av7,pZ⟩:=awb;have hL4:w3.heap[L]?=some (.loop {rec .ready none with state:=.busy}):=(p7.same L (by simpa using Ud) Uc.own).trans hL3;have hF3:=Uc.seg (by simpa using Ud) p7;have at3:L<w3.heap.size:=(ij.1 hL4).1;obtain⟨mk,NN⟩:∃mk,Nat.lor (Ap (ps.toList++cX ca++cX cb)) (Nat.lor ra.mr rb.mr)=mk:=⟨_,rfl⟩
   have avr:∀t,aW mk t=false->t∉ps.toList/\t∉cX ca/\t∉cX cb/\aW ra.mr t=false/\aW rb.mr t=false:=by
        intro t ht;rw[<-NN,gT,gT,ad1,ad1] at ht;obtain⟨t1,t2,t3⟩:=ht;have:t∉ps.toList++cX ca++cX cb:=λhm=>by rw[aeR hm] at t1;cases t1
        simp only[dT,not_or] at this;exact⟨this.1.1,this.1.2,this.2,t2,t3⟩
   have Vh:∀t,aW mk t=false->aM.tmps.getD t undef=a3.tmps.getD t undef/\(ρ1.put [] [] lo (lo.map ρ3.o)).r t=ρ3.r t:=by
        intro t ht;obtain⟨t1,t2,t3,t4,t5⟩:=avr t ht;refine⟨?_,?_⟩
        .rw[av7.get t t3,rh.get t t2];exact(QB _ _ _ _ t1).symm
        .have hb3:∀Z',xi=.next Z'\/(∃id,xi=.exit id Z')->Z'.r t=ρ2.r t:=λZ' h=>by
          have zD:xi.env?=some Z':=by rcases h with h|⟨id,h⟩<;>rw[h]<;>rfl
          exact(PC.ev_but rb.pc _ _ Z' uU zD).r t λhm=>by rw[hmb.1 t hm] at t5;cases t5
         have eI:ρ2.r t=putL ρ1.r ps.toList (partsOf ps.toList (.tup cO)) t:=(PC.ev_but ra.pc _ _ ρ2 lK rfl).r t λhm=>by rw[hma.1 t hm] at t4;cases t4
         rw[DT _ _ _ _ t1] at eI;show ρ1.r t=ρ3.r t;rw[hb3 ρ3 (by
          cases e3 with
          |normal=>exact .inl pZ.1
          |exit id=>exact .inr ⟨id,pZ.1⟩
          |ret=>exact .inr ⟨_,pZ.1⟩
          |_=>exact pZ.elim),eI]
   have U0:q2.mo=jZ ra.mo rb.mo:=by rw[<-eM];rfl
   have avE:∀j,j∉q2.mo->ρ3.o j=ρ1.o j:=by
        intro j hj;rw[U0,rl,not_or] at hj;have zD:xi.env?=some ρ3:=by
         cases e3 with
         |normal=>rw[pZ.1];rfl
         |exit id=>rw[pZ.1];rfl
         |ret=>rw[pZ.1];rfl
         |_=>exact pZ.elim
        rw[(PC.ev_but rb.pc _ _ ρ3 uU zD).o j λhm=>hj.2 (hmb.2 j hm),(PC.ev_but ra.pc _ _ ρ2 lK rfl).o j λhm=>hj.1 (hma.2 j hm)]
        exact DT _ _ _ _ λhm=>by
         rw[<-m8] at hm;have:=(gz.1 hm).1;rw[U0,rl] at this;exact this.elim hj.1 hj.2
   have U8:∀(S:Snap),S∈(q1::q2.ex.map (·.2))->∀j,sR ((S.st ids).o j)=false->(ρ1.put [] [] lo (lo.map ρ3.o)).o j=ρ3.o j:=by
        intro S hS j hj;show putL ρ1.o lo (lo.map ρ3.o) j=ρ3.o j;rw[vf];split
        .rfl
        .rename_i iT;refine(avE j λwQ=>iT ?_).symm;rw[<-m8];exact gz.2 ⟨wQ,A7.2 ⟨S,hS,by simpa [Snap.st] using hj⟩⟩
   have fin:∀(jump:Option Code) (Sx:Snap),Inv C (Sx.st ids) (ρ1.put [] [] lo (lo.map ρ3.o)) σ3 Aw G6 w0 σR (λ_=>False) aM w3->P (i'+1) (lo.map ρ3.o) Sx (if jump.isNone then .ready else .done) jump->jump.isNone=decide (i'<m)->
        ∃v w',(Instr.endRound L jump).run C.P w3=.ok v w'/\K (a'.put o.dst v) w':=by
        intro jump Sx iG hPn wQ;refine⟨_,_,run_endRound jump hL4,?_⟩;have avZ:({{rec .ready none with state:=.busy} with state:=if jump.isNone then .ready else .done,pending:=jump}:Loop)=rec (if jump.isNone then .ready else .done) jump:=by rw[fK]
        rw[avZ];have bj:=dO.round (L:=L) (o':=.loop (rec (if jump.isNone then .ready else .done) jump)) p7;have iH:=iG.putL Nk hF3 (λt' f c hf Gv=>((wH _ _ _ _ hf.F).1 L Gv).2 rfl) (.loop (rec (if jump.isNone then .ready else .done) jump));obtain⟨w4,VB⟩:∃w4,w3.putObj L (.loop (rec (if jump.isNone then .ready else .done) jump))=w4:=⟨_,rfl⟩
        have hL5:w4.heap[L]?=some (.loop (rec (if jump.isNone then .ready else .done) jump)):=by rw[<-VB];exact World.putObj_heap_same at3
        have aM5:w4.heap.size=w3.heap.size:=by rw[<-VB];simp
        rw[VB] at bj iH ⊢;have aMt:W1.heap.size<=w1.heap.size:=by
         have:=hF.lt (W1.heap.size-1) (hF.old _ (by omega));omega
        have aM1:=bj.below.size
        refine hK _ _ ⟨by rw[wQ],bj.below,λk hk hc=>bj.same k hk (by
         cases e:Ax k with
         |none=>rfl
         |some j=>exact absurd ((C0 k).2 (.inl ⟨j,e⟩)) hc) (λe=>hc (by rw[e];exact Nu)),(λk=>k<w4.heap.size/\(k<W1.heap.size\/(∃j,Aw k=some j)\/(∃o x,σ3.c k o=some x)\/∃x,σ3.m k=some x)),(λk=>(∃j,Aw k=some j)\/k=L),?_,?_,?_⟩
        .refine⟨λk hk=>hk.1,λk hk=>?_,λk hk=>⟨by omega,.inl hk⟩,i'+1,lo.map ρ3.o,Sx,_,jump,σ3,Aw,G6,rfl,hPn,iH,NK.trans ((Im.plus_le1 _ _).trans bj.le),hF3,hL5,λk j e=>⟨(iH.owns k j e).2.1,.inr (.inl ⟨j,e⟩)⟩,λk o x e=>⟨iH.lt e,.inr (.inr (.inl ⟨o,x,e⟩))⟩,λk x e=>⟨iH.ltm e,.inr (.inr (.inr ⟨x,e⟩))⟩,λk=>.rfl⟩;rcases hk with⟨j,e⟩|e
         .exact⟨(iH.owns k j e).2.1,.inr (.inl ⟨j,e⟩)⟩
         .exact⟨by omega,.inl (by omega)⟩
        .rintro k ⟨_,hk⟩ bC
         have GC:((∃o x,σ3.c k o=some x)\/∃x,σ3.m k=some x)->fx k\/(∃o x,σx.c k o=some x)\/(∃x,σx.m k=some x/\x≠fZ):=λh=>by
          rcases bj.imm k h with⟨o,x,e⟩|⟨x,e⟩|⟨j,e⟩|e
          .rcases Im.plus_c e with e|e
           .exact .inl (hcA k o x e)
           .exact .inr (.inl ⟨o,x,e⟩)
          .rcases Im.plus_m e with e|e
           .exact .inl (GH k x e)
           .exact .inr (.inr ⟨x,(Im.noM_m e).1,(Im.noM_m e).2⟩)
          .exact .inl (U7 k j e)
          .omega
         rcases hk with hk|⟨j,e⟩|e|e
         .exact .inl (hF.old k hk)
         .rcases bj.ow k j e with⟨j',e⟩|e
          .exact .inl (U7 k j' e)
          .omega
         .exact GC (.inl e)
         .exact GC (.inr e)
        .rintro k (⟨j,e⟩|e) bC
         .rcases bj.ow k j e with⟨j',e⟩|e
          .exact(C0 k).2 (.inl ⟨j',e⟩)
          .omega
         .rw[e];exact Nu
   have pU:lf σ3 w0.heap.size aM.defers:=iA.defers.mono ((Im.plus_le1 _ _).trans (dO.le.trans p7.le));have Vd:q2.out=rb.out.map (Snap.mask mk)/\q2.ex=rb.ex.map (λx=>(x.1,x.2.mask mk)):=by rw[<-eM,<-NN];exact⟨rfl,rfl⟩
   cases e3 with
   |normal=>
    obtain⟨e4,e5⟩:=pZ;have hT:q2.out=some (S3.mask mk):=by rw[Vd.1,e5];rfl
    have agE:=C2 _ hT
    have iG:Inv C (q1.st ids) ρ3 σ3 Aw G6 w0 σR (λ_=>False) a3 w3:=by
        have:=Snap.meet_ok2 (x:=q1) (iF.maskR mk)
        rwa [agE] at this
    have iH:=iG.restore (Z':=ρ1.put [] [] lo (lo.map ρ3.o)) (a':=aM) (Snap.noOpt _ _) pU (λt ht=>Vh t (by
        cases e:aW mk t with
        |false=>rfl
        |true=>
         have h9:=azk (x:=q1) (S:=S3) (ids:=ids) e;rw[agE] at h9;rw[h9] at ht;cases ht)) (λj hj=>U8 q1 (gy ..) j hj)
    rcases VF with⟨sE,Z',e6,e7⟩|⟨_,_,id,Z',e6⟩
    .rw[e4] at e6;cases e6;exact fin none q1 iH (by rw[hP];exact .inl ⟨by omega,e7,rfl,rfl,rfl⟩) (by simp[sE])
    .rw[e4] at e6;cases e6
   |exit id=>
    obtain⟨e4,e5,e6⟩:=pZ;have cY:(id,S3.mask mk)∈q2.ex:=by rw[Vd.2];exact fF.2 ⟨_,e6,rfl⟩
    have iH:=(iF.maskR mk).restore (Z':=ρ1.put [] [] lo (lo.map ρ3.o)) (a':=aM) (Snap.noOpt _ _) pU (λt ht=>Vh t (by
        cases e:aW mk t with
        |false=>rfl
        |true=>rw[Hr,if_pos e] at ht;cases ht)) (λj hj=>U8 (S3.mask mk) (fY _ (fF.2 ⟨_,cY,rfl⟩)) j hj)
    rcases VF with⟨sE,Z',e7,_⟩|⟨sE,oJ,cg,Z',e7⟩
    .rw[e4] at e7;cases e7
    .subst sE;refine fin (some (.exit id)) (S3.mask mk) iH ?_ (by simp);rw[hP];refine .inr ⟨rfl,oJ,rfl,_,id,ρ3,dY,?_,rfl,cY,.inl ⟨e5,rfl⟩⟩;rw[ab];simp only[PC.ev,lK];rw[uU,e4]
   |ret=>
    obtain⟨e4,e6⟩:=pZ;have cY:(db,S3.mask mk)∈q2.ex:=by rw[Vd.2];exact fF.2 ⟨_,e6,rfl⟩
    have iH:=(iF.maskR mk).restore (Z':=ρ1.put [] [] lo (lo.map ρ3.o)) (a':=aM) (Snap.noOpt _ _) pU (λt ht=>Vh t (by
        cases e:aW mk t with
        |false=>rfl
        |true=>rw[Hr,if_pos e] at ht;cases ht)) (λj hj=>U8 (S3.mask mk) (fY _ (fF.2 ⟨_,cY,rfl⟩)) j hj)
    rcases VF with⟨sE,Z',e7,_⟩|⟨sE,oJ,cg,Z',e7⟩
    .rw[e4] at e7;cases e7
    .subst sE;refine fin (some .ret) (S3.mask mk) iH ?_ (by simp);rw[hP];refine .inr ⟨rfl,oJ,rfl,_,db,ρ3,dY,?_,rfl,cY,.inr ⟨rfl,rfl⟩⟩;rw[ab];simp only[PC.ev,lK];rw[uU,e4]
   |_=>exact pZ.elim
  |exit id=>obtain⟨_,_,e6⟩:=kL;rw[hax] at e6;cases e6
  |ret=>obtain⟨_,e6⟩:=kL;rw[hax] at e6;cases e6
  |_=>exact kL.elim
 .rintro e' w' ⟨⟨v,rfl⟩,fx,cx,hF⟩;rw[show({tmps:=a.tmps,defers:=[{target:=Target.collected w.heap.size,args:=#[]}]++a.defers}:Act)=aM from Uh];obtain⟨i',vo,Sx,st,pe,σa,Ax,hva,e1,e2,iA,NK,Gg,Nl,U7,hcA,GH,C0⟩:=hF.ex;have h9:=congrArg List.length (congrArg D.l e1);simp only[D.l_list,eQ] at h9;have dw:(rec st pe).state≠.busy:=by
   rw[hP] at e2;rw[fK];rcases e2 with⟨_,_,_,e3,_⟩|⟨_,_,e3,_⟩<;>(rw[e3];intro e;cases e)
  have wX:(rec st pe).pending=pe:=by rw[fK]
  have Gs:(Instr.endLoop L).run C.P w'=.ok pe (w'.putObj L (.loop {rec st pe with state:=.exhausted})):=(run_endLoop (P:=C.P) Nl dw).trans (congrArg (λz=>Result.ok z _) wX);have iF:=iA.putL (by omega:w0.heap.size<=L) Gg (λt' f c hf Gv=>((wH _ _ _ _ hf.F).1 L Gv).2 rfl) (.loop {rec st pe with state:=.exhausted});rw[<-hσR] at iF;have iG:=i1.ofRnd UE (λk hk e=>by have:=auN k hk;omega) iF;have kM:SameBut wr a aM:=⟨by rw[Gj],λt _=>by rw[Gj]⟩
  refine⟨pe,_,Gs,?_⟩;rw[hP] at e2;rcases e2 with⟨e3,rfl,Gi,_,rfl⟩|⟨rfl,oJ,_,y,id,Z',g1,g2,rfl,g4,g5⟩
  .rcases gZ with⟨g1,g2⟩|⟨g1,_⟩
   .obtain rfl:i'=m:=by omega
    rw[Gi] at iG;exact⟨_,q1,g2,rfl,kM,_,_,_,iG⟩
   .omega
  .rcases gZ with⟨g6,_⟩|⟨_,y',cg,Z'',k1,k2,k3⟩
   .omega
   .rw[g1] at k1;cases k1;rw[g2] at k2;cases k2;rcases k3 with⟨k3,k4⟩|⟨k3,pe',k4,k5⟩
    .rcases g5 with⟨_,rfl⟩|⟨g5,_⟩
     .exact wpIn_exit ⟨_,Sx,k4,k3,gz.2 ⟨g4,by simp[gS k3]⟩,kM,_,_,_,iG⟩
     .exact absurd g5 k3
    .rcases g5 with⟨g5,_⟩|⟨_,rfl⟩
     .exact absurd k3 g5
     .subst k3;rw[<-uQ,aJ] at k4;obtain⟨M,hM,Vg⟩:=k4;obtain⟨M',hM',uI⟩:=V2 (⟨_,_,_,iG⟩:Good C w0 σ0 (Sx.st ids) _ (λ_=>False) aM _) q2.ex none g4;rw[hM] at hM';cases hM';obtain⟨σm,aNY,hvm,im⟩:=uI;exact wpIn_ret ⟨_,k5,Inv.retD hC (λ_=>rfl) qY Vg _ im rfl,kM⟩
def ait {arr:Array MapEntry}{clock:Nat}(hb:nI arr clock){idx:List Nat}(hi:∀i,i∈idx->i<arr.size){i:Nat}{e:MapEntry}(he:arr[i]?=some e):(gN arr idx).contains e.born=true↔i∈idx:=by
 simp only[gN,List.contains_toArray,List.contains_iff_mem,fF];constructor
 .rintro⟨j,hj,h⟩;have aq:=hi j hj;rw[kB aq] at h;simp only at h;have:=hb.2 j i arr[j] e (kB aq) he h;rw[<-this];exact hj
 .intro h;exact⟨i,h,by rw[he]⟩
def aCu (arr:Array MapEntry)(idx:List Nat){i:Nat}{e:MapEntry}(he:arr[i]?=some e):(gN arr idx).push e.born=gN arr (idx++[i]):=by
 simp[gN,he]
def azI {P:Program}{w:World}{k m:Nat}{arr:Array MapEntry}{clock:Nat}{idx:List Nat}(hk:w.heap[k]?=some (.mapIter (some m) clock (gN arr idx) clock))(hm:w.heap[m]?=some (.map arr clock))(hb:nI arr clock)(hi:∀i,i∈idx->i<arr.size)(T:TypeId):
 ∃w1:World,(w1=w\/w1=w.drew)/\(((∀i,i<arr.size->i∈idx)/\(Instr.next (.pointer (some ⟨k,0,none⟩)) false T).run P w=.ok (.tuple #[.bool false]) w1)\/
  ∃i e,arr[i]?=some e/\i∉idx/\(Instr.next (.pointer (some ⟨k,0,none⟩)) false T).run P w=.ok (.tuple #[.bool true,e.key,e.val]) {w1 with heap:=w1.heap.setIfInBounds k (.mapIter (some m) clock (gN arr (idx++[i])) clock)}):=by
 have cY:∀{e:MapEntry},e∈arr->∃i:Nat,arr[i]?=some e:=λhe=>by
  obtain⟨i,hi,rfl⟩:=Array.mem_iff_getElem.1 he;exact⟨i,kB hi⟩
 have hold:∀(l:Array MapEntry),(∀e,e∈l->e.born<clock)->l.filter (λx=>decide (x.born<clock))=l:=λl h=>by
  rw[Array.filter_eq_self];intro e he;simpa using h e he
 have ml:∀(l:Array MapEntry),(∀e,e∈l->e.born<clock)->l.filter (λx=>decide (x.born>=clock))=#[]:=λl h=>by
  rw[Array.filter_eq_empty_iff];intro e he;have:=h e he;simp;omega
 have hbc:∀e,e∈arr->e.born<clock:=λe he=>by obtain⟨i,hi⟩:=cY he;exact hb.1 i e hi
 have gh:(!(gN arr idx).isEmpty&& !arr.isEmpty&&arr.all (λx=>decide (x.born>=clock)))=false:=by
  cases ha:arr.isEmpty
  .have aI:arr.size≠0:=by simpa using ha
   have:arr.all (λx=>decide (x.born>=clock))=false:=by
        rw[JL];intro h;rw[Array.all_eq_true] at h;have h0:=h 0 (by omega);have h1:=hbc arr[0] (adZ _);simp at h0;omega
   rw[this,A2]
  .simp
 let left:=arr.filter λe=> !(gN arr idx).contains e.born
 have hl:∀e,e∈left->e.born<clock:=λe he=>hbc e (ad0.1 he).1;by_cases hz:left.size=0
 .refine⟨w,.inl rfl,.inl ⟨λi aq=>?_,?_⟩⟩
  .by_cases cj:i∈idx
   .exact cj
   .exfalso;have NM:arr[i]∈left:=ad0.2 ⟨adZ _,by
     have:=ait hb hi (kB aq);cases hc:(gN arr idx).contains arr[i].born with
     |false=>rfl
     |true=>exact absurd (this.1 hc) cj⟩
    have:left=#[]:=Rk hz;rw[this] at NM;simp at NM
  .have he:left=#[]:=Rk hz;have uG:arr.filter (λe=> !(gN arr idx).contains e.born)=#[]:=he;simp only[Instr.next,getObj,Sem.run_bind,Sem.run,hk,hm,Result.andThen_ok,gh,uG];simp[Question.forced,Sem.run]
 .have qX:left.filter (λx=>decide (x.born<clock))=left:=hold left hl;have Gr:left.filter (λx=>decide (x.born>=clock))=#[]:=ml left hl;have hem:left.isEmpty=false:=by simpa using hz
  have key:∀c,c<left.size->∃i e,arr[i]?=some e/\i∉idx/\left[c]?=some e:=λc hc=>by
   have NM:left[c]∈left:=adZ _;obtain⟨h1,h2⟩:=ad0.1 NM;obtain⟨i,gi⟩:=cY h1;refine⟨i,left[c],gi,λcj=>?_,kB hc⟩;rw[(ait hb hi gi).2 cj] at h2;cases h2
  obtain⟨w1,c,gn,hc,lF⟩:∃w1 c,(w1=w\/w1=w.drew)/\c<left.size/\(choose (.mapNext left.size)).run P w=.ok c w1:=by
   by_cases h1:left.size<=1
   .exact⟨w,0,.inl rfl,by omega,by simp[Question.forced,h1]⟩
   .exact⟨w.drew,_,.inr rfl,j7 _ (by omega),by simp[Question.forced,h1,Question.cut];rfl⟩
  obtain⟨i,e,h1,h2,h3⟩:=key c hc;refine⟨w1,gn,.inr ⟨i,e,h1,h2,?_⟩⟩;have uM:arr.filter (λe=> !(gN arr idx).contains e.born)=left:=rfl;have jO:(getObj k).run P w=.ok (.mapIter (some m) clock (gN arr idx) clock) w:=by simp[getObj,Sem.run,hk]
  have iv:(getObj m).run P w=.ok (.map arr clock) w:=by simp[getObj,Sem.run,hm]
  have bC:w1.heap[k]?=some (.mapIter (some m) clock (gN arr idx) clock):=by rcases gn with rfl|rfl<;>exact hk
  have hg3:(setObj k (.mapIter (some m) clock ((gN arr idx).push e.born) clock)).run P w1=.ok () {w1 with heap:=w1.heap.setIfInBounds k (.mapIter (some m) clock ((gN arr idx).push e.born) clock)}:=by simp[setObj,Sem.run,bC]
  have aur:((if false=true then #[none] else #[])++Array.map some (left++#[]):Array (Option MapEntry))=left.map some:=by simp
  have jt:(left.map some)[c]?=some (some e):=by simp[h3]
  have agI:∀(Fs:Array (Option MapEntry)) (cc:Nat),(choose (.mapNext Fs.size)).run P w=.ok cc w1->Fs[cc]?=some (some e)->(do
        match Fs[<-choose (.mapNext Fs.size)]? with
        |some (some e)=>
         setObj k (.mapIter (some m) clock ((gN arr idx).push e.born) clock)
         pure (.tuple #[.bool true,e.key,e.val])
        |some none=>(pure (.tuple #[.bool false]):Sem Value)
        |none=>stuck "Next: no such candidate" :Sem Value).run P w=.ok (.tuple #[.bool true,e.key,e.val]) {w1 with heap:=w1.heap.setIfInBounds k (.mapIter (some m) clock ((gN arr idx).push e.born) clock)}:=by
   intro Fs cc h4 h5;rw[Sem.run_bind,h4];simp only[Result.andThen_ok,h5];rw[Sem.run_bind,hg3];rfl
  rw[aCu arr idx h1] at agI hg3;have:=agI (left.map some) c (by rw[Array.size_map];exact lF) jt;simp only[Instr.next];rw[Sem.run_bind,jO];simp only[Result.andThen_ok];rw[Sem.run_bind,iv];simp only[Result.andThen_ok,gh,uM,qX,Gr,hem];rw[aur,if_neg (by decide)];exact this
def arM {P:Program}{w:World}{k m:Nat}{arr:Array MapEntry}{clock:Nat}{idx:List Nat}{i:Nat}{e:MapEntry}(hk:w.heap[k]?=some (.mapIter (some m) clock (gN arr (idx++[i])) clock))(hm:w.heap[m]?=some (.map arr clock))(hb:nI arr clock)(he:arr[i]?=some e):
 (Instr.entry (.pointer (some ⟨k,0,none⟩))).run P w=.ok (.tuple #[e.key,e.val]) w:=by
 have auo:(gN arr (idx++[i])).back?=some e.born:=by simp[gN,he]
 have Gw:arr.find? (λx=>x.born==e.born)=some e:=by
  have aq:i<arr.size:=(ij.1 he).1;have hei:arr[i]=e:=(ij.1 he).2;rw[Array.find?_eq_some_iff_getElem];refine⟨by simp,i,aq,hei,λj hj=>?_⟩;have iT:j<arr.size:=by omega
  cases hc:(arr[j].born==e.born) with
  |false=>rfl
  |true=>
   have:=hb.2 j i arr[j] e (kB iT) he (by simpa using hc);omega
 simp[Instr.entry,getObj,Sem.run_bind,Sem.run,hk,hm,auo,Gw]
def aze {x y z:Code}{k:Nat}{p:MP}(h:DA x y k z=some p):∃i1 i2 o1 o2 o3 l,x=.region i1 p.ops1 false/\y=.cond (.tmp p.mo) .skip (.exit p.out)/\z=.region i2 p.ops2 false/\p.next=k/\p.ops1.toList=[o1,o2]/\p.ops2.toList=o3::l/\
 o1.dst=some p.nx/\o1.guard=none/\o1.op=.next (.tmp p.it) false/\o2.dst=some p.mo/\o2.guard=none/\o2.op=.extract (.tmp p.nx) 0/\o3.dst=some p.pr/\o3.guard=none/\o3.op=.entry (.tmp p.it)/\lP p.pr l []=some p.aa/\
 p.it≠p.nx/\p.it≠p.mo/\p.it≠p.pr/\p.nx≠p.mo/\p.out≠db/\k≠db:=by
 unfold DA at h;split at h
 case h_2=>cases h
 rename_i i1 ops1 mo out i2 ops2;split at h
 case h_2=>cases h
 rename_i o1 o2 o3 l e1 e2;split at h
 case h_2=>cases h
 rename_i nx it mo' nx' pr it' d1 g1 q1 d2 g2 q2 d3 g3 q3;rw[qB] at h;split at h
 case isFalse=>cases h
 rename_i hc;simp only[aT] at h;obtain⟨aa,h4,rfl⟩:=h;simp only[aA,lY] at hc;obtain⟨⟨⟨⟨⟨⟨⟨⟨c1,c2⟩,c3⟩,c4⟩,c5⟩,c6⟩,c7⟩,c8⟩,c9⟩:=hc;have ne:∀{a b:Nat},Nat.beq a b=false->a≠b:=λh e=>by subst e;simp at h
 obtain rfl:=aK c1;obtain rfl:=aK c2;obtain rfl:=aK c3;exact⟨i1,i2,o1,o2,o3,l,rfl,rfl,rfl,rfl,e1,e2,d1,g1,q1,d2,g2,q2,d3,g3,q3,h4,ne c4,ne c5,ne c6,ne c7,ne c8,ne c9⟩
def OZ {pr:Nat}:∀(l:List Oper) {acc aa:List (Nat×Nat)},lP pr l acc=some aa->∀x,x∈acc->x∈aa
 |[],acc,aa,h,x,hx=>by simp only[lP,bx] at h;subst h;exact hx
 |o::l,acc,aa,h,x,hx=>by
  simp only[lP] at h;split at h
  case h_2=>cases h
  rw[qB] at h;split at h
  .cases h
  split at h
  .rw[qB] at h;split at h
   .exact OZ l h x (kC _ hx)
   .cases h
  .simp only[aJ] at h;obtain⟨i,_,h⟩:=h;exact OZ l h x (kC _ hx)
  .simp only[aJ] at h;obtain⟨i,_,h⟩:=h;exact OZ l h x (kC _ hx)
  .cases h
def Ho:∀{l:List (Nat×Nat)} {t i:Nat},xA l t=some i->(t,i)∈l
 |x::l,t,i,h=>by
  simp only[xA] at h;cases hb:Nat.beq x.1 t<;>simp only[hb,zyv,zyu] at h
  .exact fY _ (Ho h)
  .cases h;have:=aK hb;subst this;exact gy ..
def aid:∀{l:List (Nat×Nat)} {t:Nat},(xA l t).isSome=false->∀x,x∈l->x.1≠t
 |y::l,t,h,x,hx=>by
  simp only[xA] at h;cases hb:Nat.beq y.1 t<;>simp only[hb,zyv,zyu] at h
  .rcases dG.1 hx with e|hx
   .subst e;intro e;subst e;simp at hb
   .exact aid h x hx
  .cases h
def Xz {pr:Nat}:∀(l:List Oper) {acc aa:List (Nat×Nat)},lP pr l acc=some aa->(∀x,x∈acc->x.2<=1)->∀x,x∈aa->x∈acc\/(x.2<=1/\∃o,o∈l/\o.dst=some x.1)
 |[],acc,aa,h,_,x,hx=>by simp only[lP,bx] at h;subst h;exact .inl hx
 |o::l,acc,aa,h,ha,x,hx=>by
  simp only[lP] at h;split at h
  case h_2=>cases h
  rename_i d hd oF;rw[qB] at h;split at h
  .cases h
  have go:∀(pt:Nat),pt<=1->lP pr l (acc++[(d,pt)])=some aa->x∈acc\/(x.2<=1/\∃o',o'∈o::l/\o'.dst=some x.1):=by
   intro pt wZ hp
   rcases Xz l hp (λy hy=>by
        rcases dT.1 hy with h|h
        .exact ha y h
        .simp at h;subst h;exact wZ) x hx with h|⟨h1,o',h2,h3⟩
   .rcases dT.1 h with h|h
    .exact .inl h
    .simp at h;subst h;exact .inr ⟨wZ,o,gy ..,hd⟩
   .exact .inr ⟨h1,o',fY _ h2,h3⟩
  split at h
  .rw[qB] at h;split at h
   case isFalse=>cases h
   rename_i jt;simp only[aA] at jt;exact go _ (mO jt.2) h
  .simp only[aJ] at h;obtain⟨i,hi,h⟩:=h;exact go i (ha _ (Ho hi)) h
  .simp only[aJ] at h;obtain⟨i,hi,h⟩:=h;exact go i (ha _ (Ho hi)) h
  .cases h
def DO {P:Program}{ops:Array Oper}{i:Nat}{rest:List Nat}{o:Oper}{rd:Option Nat}{a:Act}{w w':World}{Q:Exit->Act->World->Prop}{v:Value}(ho:ops[i]?=some o)(hg:o.guard=none)(bX:sZ o.op=true)(hx:(execOp a.eval o).run P w=.ok (.value v) w')
 (k:wpOpsIn (FR rd) 0 P ops Q rest (a.put o.dst v) w'):wpOpsIn (FR rd) 0 P ops Q (i::rest) a w:=by
 simp only[wpOpsIn,ho];rw[if_pos (by simp[Region.wanted,hg])];exact alq bX (by unfold Oper.wp;rw[hx];exact k)
def aCo {ops:Array Oper}{o:Oper}(ho:o∈ops.toList)(a:Act)(v:Value):SameBut (CG ops) a (a.put o.dst v):=by
 have:=SameBut.put a o.dst v a.defers;exact this.mono λt e=>⟨o,ho,e⟩
def DU {a:Act}{d:Nat}{v:Value}(h:d<a.tmps.size):(a.put (some d) v).tmps.getD d undef=v:=by rw[JB];simp[h]
def O8 {a:Act}{d t:Nat}{v:Value}(h:t≠d):(a.put (some d) v).tmps.getD t undef=a.tmps.getD t undef:=by rw[JB];simp[h]
def put_defers (a:Act)(d:Option Nat)(v:Value):(a.put d v).defers=a.defers:=by cases d<;>rfl
def HH (kv vv:Value)(i:Nat):Value:=if i=0 then kv else vv
def aly {P:Program}{ops:Array Oper}{rd:Option Nat}{Q:Exit->Act->World->Prop}{pr:Nat}{kv vv:Value}{w:World}:∀(l:List Oper) (acc aa:List (Nat×Nat)) (i:Nat) (a:Act),lP pr l acc=some aa->ops.toList.drop i=l->(∀x,x∈aa->x.1<a.tmps.size)->a.tmps.getD pr undef=.tuple #[kv,vv]->
 (∀x,x∈acc->a.tmps.getD x.1 undef=HH kv vv x.2)->(∀a',SameBut (CG ops) a a'->a'.defers=a.defers->(∀x,x∈aa->a'.tmps.getD x.1 undef=HH kv vv x.2)->Q .normal a' w)->wpOpsIn (FR rd) 0 P ops Q (List.range' i (ops.size-i)) a w
 |[],acc,aa,i,a,h,hl,aq,q9,Gk,hQ=>by
  simp only[lP,bx] at h;subst h;have:ops.size-i=0:=by
    have:=ad8.1 hl;simp at this;omega
  rw[this];exact hQ a (.refl _ _) rfl Gk
 |o::l,acc,aa,i,a,h,hl,aq,q9,Gk,hQ=>by
  have hi:i<ops.toList.length:=by
   refine aer λhle=>?_;rw[ad8.2 hle] at hl;cases hl
  rw[aoY hi] at hl;have ho:ops[i]?=some o:=by
   have:ops.toList[i]=o:=by injection hl
   rw[<-this];simp at hi ⊢
  have iU:ops.toList.drop (i+1)=l:=by injection hl
  have bp:ops.size-i=(ops.size-(i+1))+1:=by simp at hi;omega
  rw[bp,Rz];have cY:o∈ops.toList:=by simpa using qA ho
  simp only[lP] at h;split at h
  case h_2=>cases h
  rename_i d hd oF;rw[qB] at h;split at h
  .cases h
  rename_i hc;simp only[lZ,not_or,Bool.not_eq_true] at hc;have hdp:pr≠d:=λe=>by subst e;simp at hc
  have hda:∀x,x∈acc->x.1≠d:=aid hc.2;have go:∀(pt:Nat) (v:Value),lP pr l (acc++[(d,pt)])=some aa->sZ o.op=true->v=HH kv vv pt->(execOp a.eval o).run P w=.ok (.value v) w->wpOpsIn (FR rd) 0 P ops Q (i::List.range' (i+1) (ops.size-(i+1))) a w:=by
   intro pt v hp bX hv hx;have Ux:d<a.tmps.size:=aq _ (OZ l hp (d,pt) (by simp));refine DO ho oF bX hx ?_;have kM:=aCo cY a v;rw[hd] at kM ⊢;refine aly l _ aa (i+1) _ hp iU (λx hx=>by rw[kM.size];exact aq x hx) (by rw[O8 hdp];exact q9) (λx hx=>?_) (λa' h1 h2 h3=>hQ a' (kM.trans h1) (h2.trans (put_defers _ _ _)) h3);rcases dT.1 hx with hx|hx
   .rw[O8 (hda x hx)];exact Gk x hx
   .simp at hx;subst hx;rw[DU Ux];exact hv
  split at h
  .rename_i t pt e;rw[qB] at h;split at h
   case isFalse=>cases h
   rename_i jt;simp only[aA] at jt;have ht:=aK jt.1;have wZ:=mO jt.2;subst ht;have cf:a.eval (.tmp t)=.tuple #[kv,vv]:=by simpa [Act.eval] using q9
   refine go pt (HH kv vv pt) h (by rw[e];rfl) rfl ?_;rcases(by omega:pt=0\/pt=1) with rfl|rfl<;>simp[execOp,e,cf,Instr.extract,HH]
  .rename_i t e;simp only[aJ] at h;obtain⟨pt,uM,h⟩:=h;have:=Gk _ (Ho uM);exact go pt (a.eval (.tmp t)) h (by rw[e];rfl) (by simpa [Act.eval] using this) (by simp[execOp,e])
  .rename_i t e;simp only[aJ] at h;obtain⟨pt,uM,h⟩:=h;have:=Gk _ (Ho uM);exact go pt (a.eval (.tmp t)) h (by rw[e];rfl) (by simpa [Act.eval] using this) (by simp[execOp,e])
  .cases h
def VO (ids:List Nat)(J j:Nat)(S:Snap):((S.kill ids J).st ids).o j=if j=J then .dead else(S.st ids).o j:=by
 show eX ids (Ai ids J S.os) j=_;have:∀(is:List Nat) (os:List Ob),eX is (Ai is J os) j=if j=J then .dead else eX is os j:=by
  intro is
  induction is with
  |nil=>intro os;simp[Ai,eX]
  |cons i is ih=>
   intro os;cases os with
   |nil=>simp[Ai,eX]
   |cons o os=>
    simp only[Ai,eX];cases hb:Nat.beq i j
    .simp only[zyu];exact ih os
    .have:=aK hb;subst this;simp only[zyv];by_cases oG:i=J
     .subst oG;simp
     .simp[gS oG,oG]
 exact this ids S.os
def aeV {N:Nat}{id:Nat}(NC:id≠db){rm:Bool}{wr:Nat->Prop}{a:Act}{q:Res2}{x xi:Out}(sF:(∀t,t∈q.pc.modR->aW q.mr t=true)/\∀j,j∈q.pc.modO->j∈q.mo)(dY:q.pc.ev V N Z=some xi)(cf:(gU ids id q).pc.ev V N Z=some x){e:Exit}{a':Act}{w':World}
 (g8:il C w0 σ0 ids fn s rm wr a q.out q.ex xi e a' w'):Exit.inBlock id (il C w0 σ0 ids fn s rm wr a (gU ids id q).out (gU ids id q).ex x) e a' w':=by
 have agz:∀cg S1,(cg,S1)∈q.ex->cg≠id->(cg,S1)∈q.ex.filter λx=> !Nat.beq x.1 id:=λcg S1 hm aI=>gz.2 ⟨hm,by simp[gS aI]⟩;have main:∀(o:Option Snap) (lr lo:List Nat),qf id q.ex q.out=o->(∀M,o=some M->lr=kQ M q.mr/\lo=jS ids M q.mo)->(PC.block id lr lo q.pc).ev V N Z=some x->
        Exit.inBlock id (il C w0 σ0 ids fn s rm wr a o (q.ex.filter λx=> !Nat.beq x.1 id) x) e a' w':=by
  intro o lr lo ho hl cf;simp only[PC.ev] at cf;rw[dY] at cf
  have fin:∀{ρ1:Env} {a':Act} {w':World},(∃M,o=some M/\Good C w0 σ0 (M.st ids) ρ1 (λ_=>False) a' w')->xi.env?=some ρ1->x=.next (Z.join lr lo ρ1)->SameBut wr a a'->
   il C w0 σ0 ids fn s rm wr a o (q.ex.filter λx=> !Nat.beq x.1 id) x .normal a' w':=by
        intro ρ1 a' w' hM zD hx dN;obtain⟨M,hM,uI⟩:=hM;obtain⟨l1,l2⟩:=hl M hM;subst l1 l2;exact⟨_,M,hx,hM,dN,uI.joined (PC.ev_but q.pc Z _ ρ1 dY zD) sF.1 sF.2⟩
  cases e with
  |normal=>
   obtain⟨ρ1,S2,e1,e2,dN,iv⟩:=g8;subst e1;simp only[bx] at cf;refine fin ?_ rfl cf.symm dN;rw[e2] at ho;obtain⟨M,h1,h2⟩:=Ok (id:=id) q.ex iv;rw[ho] at h1;exact⟨M,h1,h2⟩
  |exit cg=>
   obtain⟨ρ1,S2,e1,e0,e2,dN,iv⟩:=g8;subst e1;simp only at cf;show if cg=id then _ else _;by_cases cU:cg=id
   .subst cU;simp only[nO,zyv,bx] at cf;simp only[if_true];refine fin ?_ rfl cf.symm dN;rw[<-ho];exact V2 iv q.ex q.out e2
   .simp only[gS cU,zyu,bx] at cf;subst cf;simp only[cU,if_false];exact⟨ρ1,S2,rfl,e0,agz _ _ e2 cU,dN,iv⟩
  |ret=>
   cases rm with
   |false=>
    have hy:=g8;obtain⟨d,e1,_⟩:=hy;subst e1;simp only[bx] at cf;subst cf;exact g8
   |true=>
    obtain⟨ρ1,S2,e1,e2,dN,iv⟩:=g8;subst e1;simp only[gS (λe=>NC e.symm:db≠id),zyu,bx] at cf;subst cf;exact⟨ρ1,S2,rfl,agz _ _ e2 (λe=>NC e.symm),dN,iv⟩
  |_=>exact g8.elim
 unfold gU at cf ⊢;cases hm:qf id q.ex q.out with
 |none=>
  simp only[hm] at cf ⊢;exact main none [] [] hm (λM e=>by cases e) cf
 |some M=>
  simp only[hm] at cf ⊢;exact main (some M) _ _ hm (λM' e=>by cases e;exact⟨rfl,rfl⟩) cf
def aeT {N id:Nat}{q:Res2}{x:Out}(cf:(gU ids id q).pc.ev V N Z=some x):∃xi,q.pc.ev V N Z=some xi:=by
 unfold gU at cf;cases hm:qf id q.ex q.out<;>simp only[hm,PC.ev] at cf<;>cases dY:q.pc.ev V N Z<;>first|exact⟨_,rfl⟩|(rw[dY] at cf;cases cf)
def anp {es:List (D×D)}{idx:List Nat}(hn:idx.Nodup)(aq:∀i,i∈idx->i<es.length)(bj:∀i,i<es.length->i∈idx):(ia es idx).Perm (iZ (.map es)):=by
 have h1:idx.Perm (List.range es.length):=by
  rw[List.perm_ext_iff_of_nodup hn aei];intro i;rw[gR];exact⟨aq i,bj i⟩
 have h2:ia es (List.range es.length)=iZ (.map es):=by
  refine JP (by simp[ia,iZ,D.m]) λi g1 g2=>?_;have hi:i<es.length:=by simpa [ia] using g1
  simp[ia,iZ,D.m,cd hi]
 rw[<-h2];exact h1.map _
def aCv {es:List (D×D)}{idx:List Nat}(hn:idx.Nodup)(aq:∀i,i∈idx->i<es.length):∃rest,(ia es idx++rest).Perm (iZ (.map es)):=by
 refine⟨ia es ((List.range es.length).filter λi=> !idx.contains i),?_⟩;have e:ia es idx++ia es ((List.range es.length).filter λi=> !idx.contains i)=ia es (idx++(List.range es.length).filter λi=> !idx.contains i):=by simp[ia]
 rw[e];refine anp ?_ (λi hi=>?_) (λi hi=>?_)
 .rw[EJ];refine⟨hn,aei.filter _,λa ha b hb e=>?_⟩;subst e;have:=(gz.1 hb).2;simp[ha] at this
 .rcases dT.1 hi with h|h
  .exact aq i h
  .exact gR.1 (gz.1 h).1
 .by_cases h:i∈idx
  .exact kC _ h
  .exact lg _ (gz.2 ⟨gR.2 hi,by simp[h]⟩)
def anq (es:List (D×D))(idx:List Nat){i:Nat}{p:D×D}(h:es[i]?=some p):ia es (idx++[i])=ia es idx++[.tup [p.1,p.2]]:=by simp[ia,h]
def azg {N:Nat}{x y z code:Code}{k:Nat}{p:MP}(hp:DA x y k z=some p)(ihc:yQ C V fn s n ids R N code){rm:Bool}{S:Snap}{r:Res2}
 (hr:DB ids n p (cX x++(cX y++(cX z++cX code))) (λS=>comp C fn s n ids R rm code S) S=some r) {rd:Option Nat} {wr:Nat->Prop} {x0:Out} (gl:rm=false->rd=none/\σ0.fin) (hC:CtxOK C σ0) (hY:ud C V w0 σ0)
 (iW:∀t,t∈cX (.loop (.seq x (.seq y (.block k (.seq z code)))))->wr t) (hn:a.tmps.size=n) (hg:Good C w0 σ0 (S.st ids) Z (λ_=>False) a w) (he:r.pc.ev V N Z=some x0):
 (Code.loop (.seq x (.seq y (.block k (.seq z code))))).wpIn (FR rd) 0 C.P (il C w0 σ0 ids fn s rm wr a r.out r.ex x0) a w:=by
 obtain⟨i1,i2,o1,o2,o3,l,rfl,rfl,rfl,hk,e1,e2,d1,g1,q1,d2,g2,q2,d3,g3,q3,oN,n1,n2,n3,n4,n5,n6⟩:=aze hp;subst hk;unfold DB at hr;split at hr
 case h_2=>cases hr;exact absurd he (nE _ _ _ _)
 rename_i J hJ;split at hr
 case h_2=>cases hr;exact absurd he (nE _ _ _ _)
 rename_i kt et NH;simp only at hr;split at hr
 case h_2=>cases hr;exact absurd he (nE _ _ _ _)
 rename_i q hq;rw[qB] at hr;split at hr
 case isFalse=>cases hr;exact absurd he (nE _ _ _ _)
 rename_i zA;cases hr;generalize N3:cX (.region i1 p.ops1 false)++(cX (.cond (.tmp p.mo) .skip (.exit p.out))++(cX (.region i2 p.ops2 false)++cX code))=ws at*;simp only[aA,lY] at zA;obtain⟨⟨⟨⟨⟨⟨⟨⟨c1,c2⟩,c3⟩,c4⟩,c5⟩,c6⟩,c7⟩,c8⟩,c9⟩:=zA;have hex:q.2.ex=[]:=aee.1 c1;have af6:J∉q.2.mo:=λh=>by rw[(sV _ _).2 h] at c2;cases c2
 simp only[ahL,aA,lY] at c3;obtain⟨⟨c3a,c3b⟩,c3c⟩:=c3;have av1:q.1.rs.getD p.it .none=.obj J 0:=Sh.beq_eq _ _ c3a;have NQ:eX ids q.1.os J=.it kt et:=Ob.beq_eq _ _ c3b;have avV:∀t,t∈p.aa.map (·.1)->t<n:=λt ht=>by have:=fe.1 c5 t ht;rwa [qF] at this
 have Df:p.nx<n:=by rwa [qF] at c6
 have U0:p.mo<n:=by rwa [qF] at c7
 have q9:p.pr<n:=by rwa [qF] at c8
 have GI:=aK c9;obtain⟨hs,C2,cj⟩:=Hi (C:=C) (w0:=w0) (σ0:=σ0) (ids:=ids) 8 hq;simp only[aT] at hs;obtain⟨q0,sH,eM⟩:=hs;obtain⟨qS,qR⟩:=q;simp only at*;subst eM;generalize hm:Ap ws=m at*;generalize m8:jS ids qS (gU ids p.next q0).mo=lo at*;have U2:=aeU (ids:=ids) (id:=p.next) (wh code sH);have avh:∀j,j∈lo->j∈(gU ids p.next q0).mo:=λj hj=>by rw[<-m8] at hj;exact DD hj
 have aMo:J∉lo:=λh=>af6 (avh J h);have GR:∃Er,O2 ((gU ids p.next q0).pc.ev V N) Z J (p.aa.map (·.1)) (p.aa.map (·.2)) lo Er/\x0=.exit p.out (Z.put [] [] lo Er):=by
  simp only[PC.ev] at he;cases q9:O3 ((gU ids p.next q0).pc.ev V N) Z J (p.aa.map (·.1)) (p.aa.map (·.2)) lo with
  |none=>rw[q9] at he;cases he
  |some y=>
   obtain⟨Er,h1,rfl⟩:=DS.1 q9;rw[q9] at he;simp only[bx] at he;exact⟨Er,h1,he.symm⟩
 obtain⟨Er,⟨Dh,auf⟩,z8⟩:=GR;generalize mh:(Z.o J).tget 1=es at*
 have gn:∀o,o∈p.ops1.toList->∀d,o.dst=some d->d∈ws:=λo ho d hd=>by
  rw[<-N3];exact kC _ (Bb.2 ⟨o,ho,hd⟩)
 have cl:∀o,o∈p.ops2.toList->∀d,o.dst=some d->d∈ws:=λo ho d hd=>by
  rw[<-N3];exact lg _ (lg _ (kC _ (Bb.2 ⟨o,ho,hd⟩)))
 have hwc:∀d,d∈cX code->d∈ws:=λd hd=>by
  rw[<-N3];exact lg _ (lg _ (lg _ hd))
 have VE:∀t,t∈ws->wr t:=λt ht=>iW t (by rw[<-N3] at ht;exact ht);have uS:∀t,t∈ws->aW m t=true:=λt ht=>by rw[<-hm];exact aeR ht
 have UZ:∀t,aW m t=true->((qS.mask m).st ids).r t=.none:=λt ht=>by rw[Hr,if_pos ht]
 have avp:∀t,isNone (((qS.mask m).st ids).r t)=false->aW m t=false:=λt ht=>by
  cases hb:aW m t with
  |false=>rfl
  |true=>rw[UZ t hb] at ht;cases ht
 have Dm:((qS.mask m).st ids).r p.it=.obj J 0:=by
  rw[Hr,c3c];show cW (qS.rs.getD p.it .none)=_;rw[av1];rfl
 have dr:((qS.mask m).st ids).o J=.it kt et:=NQ;have kl:p.ops1[0]?=some o1:=by rw[<-Ex,e1];rfl
 have fR:p.ops1[1]?=some o2:=by rw[<-Ex,e1];rfl
 have ho3:p.ops2[0]?=some o3:=by rw[<-Ex,e2];rfl
 have awp:List.range p.ops1.size=[0,1]:=by
  have:p.ops1.size=2:=by rw[<-Ey,e1];rfl
  rw[this];rfl
 have NZ:List.range p.ops2.size=0::List.range' 1 (p.ops2.size-1):=by
  have:p.ops2.size=l.length+1:=by rw[<-Ey,e2];rfl
  rw[this,RA,Rz];rfl
 have key:∀(kk:Nat) (done vo:List D) (a':Act) (w':World),SameBut wr a a'->Good C w0 σ0 ((qS.mask m).st ids) ((Z.put [] [] lo vo).setO J (.tup [.list done,es])) (λ_=>False) a' w'->
  (∀ys,(done++ys).Perm (iZ es)->qj ((gU ids p.next q0).pc.ev V N) Z J es (p.aa.map (·.1)) (p.aa.map (·.2)) lo ys done vo=some Er)->done.length+kk=(iZ es).length+1->
  Code.roundsIn (FR rd) 0 C.P (.seq (.region i1 p.ops1 false) (.seq (.cond (.tmp p.mo) .skip (.exit p.out)) (.block p.next (.seq (.region i2 p.ops2 false) code)))) (il C w0 σ0 ids fn s rm wr a none [(p.out,(qS.mask m).kill ids J)] x0) kk a' w':=by
  intro kk
  induction kk with
  |zero=>
   intro done vo a' w' _ lG _ hlen;exfalso;obtain⟨H,own,hv,h⟩:=lG;have bI:=h.objs J;rw[dr] at bI;obtain⟨kb,mb,arr,clock,gV,idx,h1,h2,h3,aI,h4,h5,h6,h7,h8,h9,gX,pQ⟩:=bI;simp only[Env.setO,bh] at h6;injection h6 with h6;injection h6 with zq zr;injection zr with zr _;injection zq with zq;subst zq;subst zr;have hle:idx.length<=arr.size:=by
        have:=List.Nodup.length_le_of_subset h7 (l₂:=List.range arr.size) (λi hi=>gR.2 (h8 i hi));simpa using this
   simp[ia,iZ,D.m] at hlen;omega
  |succ kk ih=>
   intro done vo a' w' kM lG bj hlen;rw[roundsIn_succ];obtain⟨H,own,hv,h⟩:=lG;have bI:=h.objs J;rw[dr] at bI;obtain⟨kb,mb,arr,clock,gV,idx,h1,h2,h3,aI,h4,h5,h6,h7,h8,h9,gX,pQ⟩:=bI;simp only[Env.setO,bh] at h6;injection h6 with h6;injection h6 with zq zr;injection zr with zr _;injection zq with zq;subst zq;subst zr;have rf:=h.regs p.it;rw[Dm] at rf;have NF:a'.eval (.tmp p.it)=.pointer (some ⟨kb,0,none⟩):=by
        have:=rf.2 rfl;simp only[Act.eval];rw[this];exact h1
   have xh:a'.tmps.size=n:=kM.size.trans hn;obtain⟨w1,ahy,NP⟩:=azI (P:=C.P) h5 h4 gX h8 o1.type;have G8:Below w'.heap.size w' w1:=by rcases ahy with rfl|rfl;exact .refl _ _;exact⟨rfl,rfl,rfl,bL _,λ_ _=>rfl⟩
   have Dq:w1.heap=w'.heap:=by rcases ahy with rfl|rfl<;>rfl
   have hkl:kb<w'.heap.size:=(h.owns kb J h2).2.1;have oJ:mb<w'.heap.size:=(h.owns mb J h3).2.1;refine wpIn_seq (wpIn_region ?_);rw[awp];rcases NP with⟨UF,az⟩|⟨i,e,wP,GA,az⟩
   ·
        refine DO kl g1 (by rw[q1];rfl) (v:=.tuple #[.bool false]) (w':=w1) (by simp only[execOp,q1,NF];simp[az]) ?_;rw[d1]
        refine DO fR g2 (by rw[q2];rfl) (v:=.bool false) (w':=w1) (by
         have:(a'.put (some p.nx) (.tuple #[.bool false])).eval (.tmp p.nx)=.tuple #[.bool false]:=by simp only[Act.eval];exact DU (by omega)
         simp only[execOp,q2,this];simp[Instr.extract]) ?_
        rw[d2];simp only[wpOpsIn]
        have zR:SameBut (λt=>t∈ws) a' ((a'.put (some p.nx) (.tuple #[.bool false])).put (some p.mo) (.bool false)):=by
         have s1:=SameBut.put a' (some p.nx) (.tuple #[.bool false]) a'.defers;have s2:=SameBut.put (a'.put (some p.nx) (.tuple #[.bool false])) (some p.mo) (.bool false) (a'.put (some p.nx) (.tuple #[.bool false])).defers;exact(s1.mono λt e=>by cases e;exact gn o1 (by rw[e1];simp) _ d1).trans (s2.mono λt e=>by cases e;exact gn o2 (by rw[e1];simp) _ d2)
        generalize zw:(a'.put (some p.nx) (.tuple #[.bool false])).put (some p.mo) (.bool false)=a1 at zR;have U1:a1.eval (.tmp p.mo)=.bool false:=by
         rw[<-zw];simp only[Act.eval];exact DU (by rw[size_put];omega)
        have pU:a1.defers=a'.defers:=by rw[<-zw,put_defers,put_defers]
        refine wpIn_seq (wpIn_cond_false U1 (wpIn_exit ?_));have avR:(ia gV idx++[]).Perm (iZ (.map gV)):=by
         rw[tU];exact anp h7 (λi hi=>by rw[h9];exact h8 i hi) (λi hi=>UF i (by omega))
        have ahx:=bj [] avR;simp only[qj,bx] at ahx;subst ahx;refine⟨_,_,z8,n5,JU.2 rfl,kM.trans (zR.mono VE),?_⟩;refine⟨H,own,hv,?_⟩
        refine h.step (S':=((qS.mask m).kill ids J).st ids) (Z':=Z.put [] [] lo vo) (A':=λ_=>False) (λj=>j=J) pU (.refl H) (h.ok.below G8) (λ_ _ _ hx=>.inl hx) (λ_ _ hx=>.inl hx) (G8.mono h.below.size) ⟨λ_=>bL _,λ_ _=>rfl⟩
         (λj hj=>⟨by rw[VO,if_neg hj],by simp[Env.setO,bU _ _ hj],rfl,λb hb=>⟨hb,by rw[Dq]⟩⟩) (λj hj=>?_) (λb j hb=>?_) (λ_=>id) (λt=>?_) (λ_ hf=>hf.elim) (λb hb _=>by rw[Dq]) (λb j hb=>.inl ⟨j,hb⟩) (λj hj=>?_)
        .rw[VO,if_pos hj];trivial
        .obtain⟨b1,b2,b3,b4⟩:=h.owns b j hb;exact⟨b1,by rw[Dq];exact b2,b3,b4⟩
        .by_cases ht:t∈ws
         .refine .inr ⟨?_,λgs s' e=>absurd e (Snap.noOpt _ _ t gs s')⟩;have:(((qS.mask m).kill ids J).st ids).r t=.none:=UZ t (uS t ht);rw[this];trivial
         .exact .inl ⟨rfl,zR.get t ht,rfl⟩
        .rw[VO,if_pos hj];intro e;cases e
   ·
        obtain⟨pd,Va⟩:∃pd,gV[i]?=some pd:=⟨_,cd (by rw[h9];exact(ij.1 wP).1)⟩
        obtain⟨bC,dq⟩:=pQ i e pd wP Va;generalize Dr:({w1 with heap:=w1.heap.setIfInBounds kb (.mapIter (some mb) clock (gN arr (idx++[i])) clock)}:World)=w2 at az;have ahz:w2.heap[kb]?=some (.mapIter (some mb) clock (gN arr (idx++[i])) clock):=by rw[<-Dr];simp[Dq,hkl]
        have Ds:∀b,b≠kb->w2.heap[b]?=w'.heap[b]?:=λb hb=>by rw[<-Dr];simp only[Dq];rw[adY (vV hb)]
        have aM4:w2.heap.size=w'.heap.size:=by rw[<-Dr];simp[Dq]
        have ahA:w2.heap[mb]?=some (.map arr clock):=by rw[Ds mb (vV aI)];exact h4
        refine DO kl g1 (by rw[q1];rfl) (v:=.tuple #[.bool true,e.key,e.val]) (w':=w2) (by simp only[execOp,q1,NF];simp[az]) ?_;rw[d1]
        refine DO fR g2 (by rw[q2];rfl) (v:=.bool true) (w':=w2) (by
         have:(a'.put (some p.nx) (.tuple #[.bool true,e.key,e.val])).eval (.tmp p.nx)=.tuple #[.bool true,e.key,e.val]:=by simp only[Act.eval];exact DU (by omega)
         simp only[execOp,q2,this];simp[Instr.extract]) ?_
        rw[d2];simp only[wpOpsIn]
        have zR:SameBut (λt=>t∈ws) a' ((a'.put (some p.nx) (.tuple #[.bool true,e.key,e.val])).put (some p.mo) (.bool true)):=by
         have s1:=SameBut.put a' (some p.nx) (.tuple #[.bool true,e.key,e.val]) a'.defers;have s2:=SameBut.put (a'.put (some p.nx) (.tuple #[.bool true,e.key,e.val])) (some p.mo) (.bool true) (a'.put (some p.nx) (.tuple #[.bool true,e.key,e.val])).defers;exact(s1.mono λt e=>by cases e;exact gn o1 (by rw[e1];simp) _ d1).trans (s2.mono λt e=>by cases e;exact gn o2 (by rw[e1];simp) _ d2)
        have agN:(((a'.put (some p.nx) (.tuple #[.bool true,e.key,e.val])).put (some p.mo) (.bool true))).eval (.tmp p.it)=.pointer (some ⟨kb,0,none⟩):=by
         simp only[Act.eval] at NF ⊢;rw[O8 n2,O8 n1];exact NF
        generalize zw:(a'.put (some p.nx) (.tuple #[.bool true,e.key,e.val])).put (some p.mo) (.bool true)=a1 at zR agN;have U1:a1.eval (.tmp p.mo)=.bool true:=by
         rw[<-zw];simp only[Act.eval];exact DU (by rw[size_put];omega)
        have pU:a1.defers=a'.defers:=by rw[<-zw,put_defers,put_defers]
        refine wpIn_seq (wpIn_cond_true U1 (wpIn_skip ?_));refine wpIn_block (wpIn_seq (wpIn_region ?_));rw[NZ];refine DO ho3 g3 (by rw[q3];rfl) (v:=.tuple #[e.key,e.val]) (w':=w2) (by simp only[execOp,q3,agN];simp[arM ahz ahA gX wP]) ?_;rw[d3]
        have Dl:SameBut (λt=>t∈ws) a1 (a1.put (some p.pr) (.tuple #[e.key,e.val])):=
         (SameBut.put a1 (some p.pr) (.tuple #[e.key,e.val]) a1.defers).mono λt e=>by cases e;exact cl o3 (by rw[e2];simp) _ d3
        have aho:a1.tmps.size=n:=zR.size.trans xh;refine aly (kv:=e.key) (vv:=e.val) l [] p.aa 1 _ oN (by rw[e2];rfl) (λx hx=>by rw[Dl.size,aho];exact avV _ (fF.2 ⟨x,hx,rfl⟩)) (DU (by rw[aho];exact q9)) (λx hx=>by cases hx) (λa2 dN dD avP=>?_);have Vk:SameBut (λt=>t∈ws) a' a2:=(zR.trans Dl).trans (dN.mono λt ⟨o,ho,hd⟩=>cl o ho t hd);have auA:a2.defers=a'.defers:=by rw[dD,put_defers,pU]
        have awm:Good C w0 σ0 (((qS.mask m).start (p.aa.map (·.1)) (p.aa.map λx=>bif Nat.beq x.2 0 then kt else et)).st ids) ((Z.put (p.aa.map (·.1)) ((p.aa.map (·.2)).map (D.tup [pd.1,pd.2]).tget) lo vo).setO J (.tup [.list (ia gV idx++[.tup [pd.1,pd.2]]),.map gV])) (λ_=>False) a2 w2:=by
         have hbw:Below w0.heap.size w' w2:=⟨by rw[<-Dr];exact G8.os,by rw[<-Dr];exact G8.tape,by rw[<-Dr];exact G8.output,by omega,λb hb=>Ds b (λe=>by subst e;have:=(h.owns b J h2).1;omega)⟩
         have km:H.ok w2:=by
          refine⟨λb o v hc=>?_,λb es hc=>?_⟩
          .have Un:b≠kb:=λe=>by subst e;rw[(h.owns b J h2).2.2.1 o] at hc;cases hc
           have:=h.ok.c b o v hc;simp only[World.cell?] at this ⊢;rw[Ds b Un];exact this
          .have Un:b≠kb:=λe=>by subst e;rw[(h.owns b J h2).2.2.2] at hc;cases hc
           exact(h.ok.m b es hc).keep (Ds b Un)
         have g8:∀j,((Z.put (p.aa.map (·.1)) ((p.aa.map (·.2)).map (D.tup [pd.1,pd.2]).tget) lo vo).setO J (.tup [.list (ia gV idx++[.tup [pd.1,pd.2]]),.map gV])).o j=if j=J then .tup [.list (ia gV idx++[.tup [pd.1,pd.2]]),.map gV] else putL Z.o lo vo j:=λj=>by
          simp only[Env.setO,ic];rfl
         refine⟨H,own,hv,h.step (λj=>j=J) auA (.refl H) km (λ_ _ _ hx=>.inl hx) (λ_ _ hx=>.inl hx) hbw ⟨λ_=>bL _,λ_ _=>rfl⟩
          (λj hj=>⟨rfl,by rw[g8,if_neg hj];simp[Env.setO,bU _ _ hj,Env.put],rfl,λb hb=>⟨hb,Ds b (λe=>by subst e;rw[h2] at hb;cases hb;exact hj rfl)⟩⟩) (λj hj=>?_) (λb j hb=>?_) (λ_=>id) (λt=>?_) (λ_ hf=>hf.elim)
          (λb hb ho=>Ds b (λe=>by subst e;rw[h2] at ho;cases ho)) (λb j hb=>.inl ⟨j,hb⟩) (λj hj=>?_)⟩
         .subst hj;have:(((qS.mask m).start (p.aa.map (·.1)) (p.aa.map λx=>bif Nat.beq x.2 0 then kt else et)).st ids).o j=.it kt et:=NQ;rw[this];refine⟨kb,mb,arr,clock,gV,idx++[i],h1,h2,h3,aI,ahA,ahz,by rw[g8,if_pos rfl,anq gV idx Va],?_,?_,h9,gX,pQ⟩
          .rw[EJ];exact⟨h7,by simp,λa ha b hb e=>by simp at hb;subst hb;subst e;exact GA ha⟩
          .intro i' gi;rcases dT.1 gi with h|h
           .exact h8 i' h
           .simp at h;subst h;exact(ij.1 wP).1
         .obtain⟨b1,b2,b3,b4⟩:=h.owns b j hb;exact⟨b1,by omega,b3,b4⟩
         .have hc:Compat ((qS.mask m).st ids) hv (((qS.mask m).start (p.aa.map (·.1)) (p.aa.map λx=>bif Nat.beq x.2 0 then kt else et)).st ids) hv:=⟨λ_=>bL _,λ_ _=>rfl⟩
          refine .inr ⟨?_,λgs s' e=>absurd e (Snap.noOpt _ _ t gs s')⟩;show ba C _ _ H hv (cW ((tD (p.aa.map (·.1)) (p.aa.map λx=>bif Nat.beq x.2 0 then kt else et) ((qS.mask m).rs.map uJ)).getD t .none)) (a2.tmps.getD t undef) (putL Z.r (p.aa.map (·.1)) ((p.aa.map (·.2)).map (D.tup [pd.1,pd.2]).tget) t);rcases ZU (p.aa.map (·.1)) (p.aa.map λx=>bif Nat.beq x.2 0 then kt else et) ((qS.mask m).rs.map uJ) (by simp) c4 t with e|⟨CH,wu⟩|⟨i',y,CH,wu,TE⟩
          .rw[e];trivial
          .rw[wu,DT _ _ _ _ CH];have e3:((qS.mask m).rs.map uJ).getD t .none=uJ ((qS.mask m).rs.getD t .none):=by
            simp only[bn,dF];cases(qS.mask m).rs[t]?<;>rfl
           rw[e3];by_cases htw:t∈ws
           .have De:=UZ t (uS t htw);change cW ((qS.mask m).rs.getD t .none)=.none at De;generalize (qS.mask m).rs.getD t .none=s' at De;cases s'<;>simp[cW] at De<;>trivial
           .have hr:=h.regs t;change ba C _ _ H hv (cW ((qS.mask m).rs.getD t .none)) _ (Z.r t) at hr;rw[Vk.get t htw];generalize (qS.mask m).rs.getD t .none=s' at hr;cases s' with
            |yv=>trivial
            |opt gs s=>trivial
            |none=>trivial
            |fclo f c=>exact ba.mono' (.refl H) hc (λ_ _ e=>by cases e) hr
            |agg l=>exact ba.mono' (.refl H) hc (λ_ _ e=>by cases e) hr
            |dat t=>exact hr
            |obj j v=>exact ba.mono' (.refl H) hc (λ_ _ e=>by cases e) hr
            |ptr j v o=>exact ba.mono' (.refl H) hc (λ_ _ e=>by cases e) hr
            |eptr j v o q=>exact ba.mono' (.refl H) hc (λ_ _ e=>by cases e) hr
          .rw[TE];have auU:i'<p.aa.length:=by have:=(jF.1 CH).1;simpa using this
           rw[XG _ (p.aa.map (·.1)) _ i' t (va c4) (by simp) CH];obtain⟨xa,lK⟩:∃xa,p.aa[i']?=some xa:=⟨_,cd auU⟩
           simp only[dF,lK,ll,bx] at CH wu;subst CH;subst wu;rw[avP xa (tZ lK)];have hd:((p.aa.map (·.2)).map (D.tup [pd.1,pd.2]).tget).getD i' .none=(D.tup [pd.1,pd.2]).tget xa.2:=by simp[bn,lK]
           rw[hd];have h2x:xa.2<=1:=by
            rcases Xz l oN (λx hx=>by cases hx) xa (tZ lK) with h|h
            .cases h
            .exact h.1
           rcases(by omega:xa.2=0\/xa.2=1) with e0|e0<;>rw[e0]
           .exact bC
           .exact dq
         .have:(((qS.mask m).start (p.aa.map (·.1)) (p.aa.map λx=>bif Nat.beq x.2 0 then kt else et)).st ids).o j=.it kt et:=by rw[hj];exact NQ
          rw[this];intro e;cases e
        have avQ:=anq gV idx Va;obtain⟨rest,xc⟩:∃rest,(ia gV idx++(D.tup [pd.1,pd.2])::rest).Perm (iZ (.map gV)):=by
         obtain⟨rest,hr⟩:=aCv (es:=gV) (idx:=idx++[i]) (by rw[EJ];exact⟨h7,by simp,λa ha b hb e=>by simp at hb;subst hb;subst e;exact GA ha⟩) (λi' gi=>by
          rcases dT.1 gi with h|h
          .rw[h9];exact h8 i' h
          .simp at h;subst h;rw[h9];exact(ij.1 wP).1)
         rw[avQ] at hr;exact⟨rest,by simpa using hr⟩
        have iQ:=bj _ xc;simp only[qj] at iQ;split at iQ
        case h_2=>cases iQ
        rename_i ρ2 Ns;obtain⟨xi,dY⟩:=aeT Ns;refine wpIn_mono (ihc rm _ q0 sH rd w0 σ0 wr _ xi a2 w2 gl hC hY (λt ht=>VE t (hwc t ht)) (Vk.size.trans xh) awm dY) λee a3 w3 g8=>?_;have q8:=aeV n6 (wh code sH) dY Ns g8;have conv:∀ee a3 w3,il C w0 σ0 ids fn s rm wr a2 (gU ids p.next q0).out (gU ids p.next q0).ex (.next ρ2) ee a3 w3->Exit.then (Code.roundsIn (FR rd) 0 C.P (.seq (.region i1 p.ops1 false) (.seq (.cond (.tmp p.mo) .skip (.exit p.out)) (.block p.next (.seq (.region i2 p.ops2 false) code)))) (il C w0 σ0 ids fn s rm wr a none [(p.out,(qS.mask m).kill ids J)] x0) kk) (il C w0 σ0 ids fn s rm wr a none [(p.out,(qS.mask m).kill ids J)] x0) ee a3 w3:=by
         intro ee a3 w3 ho;cases ee with
         |normal=>
          obtain⟨ρ3,T,f1,f2,f3,f4⟩:=ho;cases f1;refine ih (ia gV idx++[.tup [pd.1,pd.2]]) (lo.map ρ2.o) a3 w3 (kM.trans ((Vk.mono VE).trans f3)) ?_ (λys xl=>?_) (by simp at hlen ⊢;omega)
          .have uI:Good C w0 σ0 (qS.st ids) ρ2 (λ_=>False) a3 w3:=by
            have:=f4.meet2 (x:=qS)
            rwa [C2 T f2] at this
           obtain⟨σ3,Aw,G6,fI⟩:=uI;have Up:=PC.ev_but _ _ _ ρ2 Ns rfl;refine⟨σ3,Aw,G6,(fI.maskR m).env (Snap.noOpt _ _) (λt ht=>?_) (λj hj=>?_)⟩
           .have De:=avp t ht
            have eK:t∉(gU ids p.next q0).pc.modR:=λcP=>by
                 have:=U2.1 t cP;have h2:aW (Nat.lor m (gU ids p.next q0).mr) t=true:=by rw[gT,this,tR]
                 rw[GI,De] at h2;cases h2
            rw[Up.r t eK]
            have q6:t∉p.aa.map (·.1):=λbm=>by
                 have:aW m t=true:=by
                  refine uS t ?_;obtain⟨xa,lK,rfl⟩:=fF.1 bm;rcases Xz l oN (λx hx=>by cases hx) xa lK with h|⟨_,o,ho,hd⟩
                  .cases h
                  .exact cl o (by rw[e2];exact fY _ ho) _ hd
                 rw[De] at this;cases this
            show Z.r t=putL Z.r (p.aa.map (·.1)) _ t;rw[DT _ _ _ _ q6]
           .have hjd:sR (eX ids qS.os j)=false:=hj;show cL (putL Z.o lo (lo.map ρ2.o)) J _ j=ρ2.o j;by_cases C9:j=J
            .subst C9;rw[bh,Up.o j (λcP=>af6 (U2.2 j cP))];simp[Env.setO,bh]
            .rw[bU _ _ C9,vf];split
             .rfl
             .rename_i iT;have eK:j∉(gU ids p.next q0).pc.modO:=λcP=>iT (by rw[<-m8];exact gz.2 ⟨U2.2 j cP,by rw[hjd];rfl⟩);rw[Up.o j eK];simp only[Env.setO,bU _ _ C9];exact(XH _ _ _ _ iT).symm
          .have:=bj ((D.tup [pd.1,pd.2])::ys) (by simpa using xl);simp only[qj,Ns] at this;exact this
         |exit id=>obtain⟨ρ3,T,f1,_⟩:=ho;cases f1
         |ret=>
          cases rm with
          |false=>obtain⟨d,f1,_⟩:=ho;cases f1
          |true=>obtain⟨ρ3,T,f1,_⟩:=ho;cases f1
         |_=>exact ho.elim
        cases ee with
        |exit id=>
         simp only[Exit.inBlock] at q8;show if id=p.next then _ else _;split
         .rename_i cU;rw[if_pos cU] at q8;exact conv .normal a3 w3 q8
         .rename_i cU;rw[if_neg cU] at q8;exact conv (.exit id) a3 w3 q8
        |normal=>exact conv .normal a3 w3 q8
        |ret=>exact conv .ret a3 w3 q8
        |panic c=>exact g8.elim
        |goto l=>exact g8.elim
        |_=>exact g8.elim
 have UK:Good C w0 σ0 (qS.st ids) Z (λ_=>False) a w:=cj hg;obtain⟨H,own,hv,h⟩:=UK;have bI:=h.objs J;have:(qS.st ids).o J=.it kt et:=NQ;rw[this] at bI;obtain⟨kb,mb,arr,clock,gV,idx,h1,h2,h3,aI,h4,h5,h6,h7,h8,h9,gX,pQ⟩:=bI;have hρJ:Z.o J=.tup [.list [],es]:=by
  rw[h6] at Dh mh;simp[D.tget] at Dh mh;rw[h6,Dh,<-mh]
 have zD:(Z.put [] [] lo (lo.map Z.o)).setO J (.tup [.list [],es])=Z:=by
  rw[Env.put_self];show Env.mk _ _=_;have:cL Z.o J (.tup [.list [],es])=Z.o:=by
   funext j;rw[ic];split
   .rename_i e;rw[e];exact hρJ.symm
   .rfl
  rw[this]
 exact wpIn_loop_rounds _ (key ((iZ es).length+1) [] (lo.map Z.o) a w (.refl _ _) (by rw[zD];exact⟨H,own,hv,h.maskR m⟩) (λys xl=>auf ys xl) (by simp))
def aqA {N:Nat}(gC:gP C V)(hR:RK C n ids V R):∀(k:Nat) (c:Code),sizeOf c<k->yQ C V fn s n ids R N c:=by
 intro k;refine Nat.rec (λc h=>absurd h (Nat.not_lt_zero _)) (λk IH=>?_) k;intro c hc;cases c with
 |skip=>
  intro rm S r h rd w0 σ0 wr Z x a w gl hC hY iW hn hg he;simp only[comp,bx] at h;subst h;simp only[PC.ev,bx] at he;subst he;exact wpIn_skip ⟨Z,S,rfl,rfl,.refl _ _,hg⟩
 |region id ops draw=>
  intro rm S r h rd w0 σ0 wr Z x a w gl hC hY iW hn hg he;simp only[comp,aT] at h;obtain⟨q,hq,rfl⟩:=h;simp only[PC.ev,aT] at he;obtain⟨Z',hr,rfl⟩:=he;exact hR id ops draw S q hq rd w0 σ0 Z Z' a w _ hC hY hn hg hr (λa' w' ei lG=>⟨Z',q.1,rfl,rfl,ei.mono (λt ⟨o,h1,h2⟩=>iW t (Bb.2 ⟨o,h1,h2⟩)),lG⟩)
 |seq c1 c2=>
  have xn:=IH c1 (by simp at hc;omega);have p9:=IH c2 (by simp at hc;omega);intro rm S r h rd w0 σ0 wr Z x a w gl hC hY iW hn hg he;have gn:∀t,t∈cX c1->wr t:=λt ht=>iW t (kC _ ht);have cl:∀t,t∈cX c2->wr t:=λt ht=>iW t (lg _ ht);simp only[comp,aJ] at h;obtain⟨q,hq,h⟩:=h;split at h
  .rename_i kL;cases h;refine wpIn_seq (wpIn_mono (xn rm S _ hq rd w0 σ0 wr Z x a w gl hC hY gn hn hg he) λe a' w' ho=>?_);cases e with
   |normal=>obtain⟨_,_,_,h2,_⟩:=ho;rw[kL] at h2;cases h2
   |_=>exact ho
  .rename_i S1 kL;simp only[aT] at h;obtain⟨p,hp,rfl⟩:=h;simp only[PC.ev] at he
   have key:∀x1,q.pc.ev V N Z=some x1->(match some x1 with|some (.next Z')=>p.pc.ev V N Z'|y=>y)=some x->(Code.seq c1 c2).wpIn (FR rd) 0 C.P (il C w0 σ0 ids fn s rm wr a p.out (q.ex++p.ex) x) a w:=by
      intro x1 h1 h2;refine wpIn_seq (wpIn_mono (xn rm S _ hq rd w0 σ0 wr Z x1 a w gl hC hY gn hn hg h1) λe a' w' ho=>?_);have other:∀{e:Exit},e≠.normal->il C w0 σ0 ids fn s rm wr a q.out q.ex x1 e a' w'->x1=x->il C w0 σ0 ids fn s rm wr a p.out (q.ex++p.ex) x e a' w':=by
       intro e aI ho hx;subst hx;exact ho.mono (λy hy=>kC _ hy) (.refl _ _) (λe=>absurd e aI)
      cases e with
      |normal=>
       obtain⟨ρ1,S2,e1,e2,dN,iv⟩:=ho;subst e1;rw[kL] at e2;cases e2;simp only at h2;refine wpIn_mono (p9 rm S1 _ hp rd w0 σ0 wr ρ1 x a' w' gl hC hY cl (dN.size.trans hn) iv h2) λe a2 w2 fR=>?_;exact fR.mono (λy hy=>lg _ hy) dN (λ_=>rfl)
      |exit id=>
       refine other (by simp) ho ?_;obtain⟨ρ1,S2,e1,_⟩:=ho;subst e1;simpa using h2
      |ret=>
       refine other (by simp) ho ?_;cases rm with
       |false=>obtain⟨d,e1,_⟩:=ho;subst e1;simpa using h2
       |true=>obtain⟨ρ1,S2,e1,_⟩:=ho;subst e1;simpa using h2
      |_=>exact ho.elim
   cases h1:q.pc.ev V N Z with
   |none=>rw[h1] at he;simp at he
   |some x1=>rw[h1] at he;exact key x1 h1 he
 |cond c c1 c2=>
  have xn:=IH c1 (by simp at hc;omega);have p9:=IH c2 (by simp at hc;omega);intro rm S r h rd w0 σ0 wr Z x a w gl hC hY iW hn hg he;have gn:∀t,t∈cX c1->wr t:=λt ht=>iW t (kC _ ht);have cl:∀t,t∈cX c2->wr t:=λt ht=>iW t (lg _ ht);simp only[comp] at h;split at h
  case h_2=>cases h;exact absurd he (nE _ _ _ _)
  rename_i e hu;simp only[aJ,aT] at h;obtain⟨q,hq,p,hp,rfl⟩:=h;have hb:∃b,a.eval c=.bool b/\e.ev Z=.v (.bool b):=by
   obtain⟨H,own,hv,hi⟩:=hg;have:=cM (gs:=[]) hi hC rfl hu;generalize a.eval c=v at this;generalize e.ev Z=d at this;cases this with|bool b=>exact⟨b,rfl,rfl⟩
  obtain⟨b,iQ,eI⟩:=hb;have sF:=wh c1 hq;have hmp:=wh c2 hp;have main:∀(o:Option Snap) (lr lo:List Nat) (rx:Res2),rx=⟨.ite e lr lo q.pc p.pc,o,q.ex++p.ex,Nat.lor q.mr p.mr,jZ q.mo p.mo⟩->
        (∀M,o=some M->lr=kQ M (Nat.lor q.mr p.mr)/\lo=jS ids M (jZ q.mo p.mo))->
        (∀S1 ρ1 a w,q.out=some S1->Good C w0 σ0 (S1.st ids) ρ1 (λ_=>False) a w->∃M,o=some M/\Good C w0 σ0 (M.st ids) ρ1 (λ_=>False) a w)->
        (∀S1 ρ1 a w,p.out=some S1->Good C w0 σ0 (S1.st ids) ρ1 (λ_=>False) a w->∃M,o=some M/\Good C w0 σ0 (M.st ids) ρ1 (λ_=>False) a w)->
        rx.pc.ev V N Z=some x->(Code.cond c c1 c2).wpIn (FR rd) 0 C.P (il C w0 σ0 ids fn s rm wr a rx.out rx.ex x) a w:=by
   intro o lr lo rx hrx hl sI oN cf;subst hrx;simp only[PC.ev,eI,D.b_bool] at cf;have fin:∀(ci:Code) (qi:Res2) (xi:Out),(∀y,y∈qi.ex->y∈q.ex++p.ex)->(∀t,t∈qi.pc.modR->aW (Nat.lor q.mr p.mr) t=true)->(∀j,j∈qi.pc.modO->j∈jZ q.mo p.mo)->
    (∀S1 ρ1 a w,qi.out=some S1->Good C w0 σ0 (S1.st ids) ρ1 (λ_=>False) a w->∃M,o=some M/\Good C w0 σ0 (M.st ids) ρ1 (λ_=>False) a w)->
    qi.pc.ev V N Z=some xi->(match some xi with|some (.next Z')=>some (Out.next (Z.join lr lo Z'))|y=>y)=some x->
    ci.wpIn (FR rd) 0 C.P (il C w0 σ0 ids fn s rm wr a qi.out qi.ex xi) a w->ci.wpIn (FR rd) 0 C.P (il C w0 σ0 ids fn s rm wr a o (q.ex++p.ex) x) a w:=by
        intro ci qi xi hex p5 xb kL dY hx hwp;refine wpIn_mono hwp λee a' w' ho=>?_;have other:ee≠.normal->xi=x->il C w0 σ0 ids fn s rm wr a o (q.ex++p.ex) x ee a' w':=by
         intro aI dC;subst dC;exact ho.mono hex (.refl _ _) (λe=>absurd e aI)
        cases ee with
        |normal=>
         obtain⟨ρ1,S2,e1,e2,dN,iv⟩:=ho;subst e1;simp only[bx] at hx;subst hx;obtain⟨M,hM,uI⟩:=kL S2 ρ1 a' w' e2 iv;obtain⟨l1,l2⟩:=hl M hM;subst l1 l2;exact⟨_,M,rfl,hM,dN,uI.joined (PC.ev_but qi.pc Z _ ρ1 dY rfl) p5 xb⟩
        |exit id=>
         refine other (by simp) ?_;obtain⟨ρ1,S2,e1,_⟩:=ho;subst e1;simpa using hx
        |ret=>
         refine other (by simp) ?_;cases rm with
         |false=>obtain⟨d,e1,_⟩:=ho;subst e1;simpa using hx
         |true=>obtain⟨ρ1,S2,e1,_⟩:=ho;subst e1;simpa using hx
        |_=>exact ho.elim
   refine wpIn_cond iQ ?_;cases b with
   |true=>
    simp only[zyv] at cf;cases dY:q.pc.ev V N Z with
    |none=>rw[dY] at cf;simp at cf
    |some xi=>
     rw[dY] at cf;refine fin c1 q xi (λy hy=>kC _ hy) (λt ht=>?_) (λj hj=>rl.2 (.inl (sF.2 j hj))) sI dY cf (xn rm S _ hq rd w0 σ0 wr Z xi a w gl hC hY gn hn hg dY);rw[gT,sF.1 t ht];rfl
   |false=>
    simp only[zyu] at cf;cases dY:p.pc.ev V N Z with
    |none=>rw[dY] at cf;simp at cf
    |some xi=>
     rw[dY] at cf;refine fin c2 p xi (λy hy=>lg _ hy) (λt ht=>?_) (λj hj=>rl.2 (.inr (hmp.2 j hj))) oN dY cf (p9 rm S _ hp rd w0 σ0 wr Z xi a w gl hC hY cl hn hg dY);rw[gT,hmp.1 t ht,tR]
  have sI:∀S1 ρ1 a w,q.out=some S1->Good C w0 σ0 (S1.st ids) ρ1 (λ_=>False) a w->∃M,nk q.out p.out=some M/\Good C w0 σ0 (M.st ids) ρ1 (λ_=>False) a w:=by
   intro S1 ρ1 a w e1 g1;rw[e1];obtain⟨M,hM⟩:=@aiF S1 p.out;exact⟨M,hM,aiD g1 hM⟩
  have oN:∀S1 ρ1 a w,p.out=some S1->Good C w0 σ0 (S1.st ids) ρ1 (λ_=>False) a w->∃M,nk q.out p.out=some M/\Good C w0 σ0 (M.st ids) ρ1 (λ_=>False) a w:=by
   intro S1 ρ1 a w e1 g1;rw[e1];obtain⟨M,hM⟩:=@aiG q.out S1;exact⟨M,hM,aiE g1 hM⟩
  cases hm:nk q.out p.out with
  |none=>
   rw[hm] at sI oN;simp only[hm] at he ⊢;exact main none [] [] _ rfl (λM e=>by cases e) sI oN he
  |some M=>
   rw[hm] at sI oN;simp only[hm] at he ⊢;exact main (some M) _ _ _ rfl (λM' e=>by cases e;exact⟨rfl,rfl⟩) sI oN he
 |block id c1=>
  have xn:=IH c1 (by simp at hc;omega);intro rm S r h rd w0 σ0 wr Z x a w gl hC hY iW hn hg he;simp only[comp] at h;cases cU:Nat.beq id db<;>simp only[cU,zyv,zyu] at h
  case true=>cases h;exact absurd he (nE _ _ _ _)
  have NC:id≠db:=λe=>by subst e;simp at cU
  simp only[aT] at h;obtain⟨q,hq,rfl⟩:=h;obtain⟨xi,dY⟩:=aeT he;exact wpIn_block (wpIn_mono (xn rm S _ hq rd w0 σ0 wr Z xi a w gl hC hY iW hn hg dY) λe a' w' g8=>aeV NC (wh c1 hq) dY he g8)
 |loop c1=>
  have xn:=IH c1 (by simp at hc;omega);intro rm S r h rd w0 σ0 wr Z x a w gl hC hY iW hn hg he;rw[afe] at h;split at h
  .rename_i qb GS;obtain⟨p,code,ws⟩:=qb;unfold An at GS;split at GS
   case h_2=>cases GS
   rename_i cx cy ck cz cc;simp only[aT] at GS;obtain⟨p',bm,ep⟩:=GS;cases ep;exact azg bm (IH _ (by simp at hc;omega)) h gl hC hY iW hn hg he
  split at h
  case h_2=>cases h;exact absurd he (nE _ _ _ _)
  rename_i q hq;cases h;obtain⟨hs,C2,cj⟩:=Hi (C:=C) (w0:=w0) (σ0:=σ0) (ids:=ids) 8 hq;have sF:=wh c1 hs;simp only[PC.ev] at he
  have uH:Good C w0 σ0 (q.1.st ids) (Z.put (kQ q.1 q.2.mr) ((kQ q.1 q.2.mr).map Z.r) (jS ids q.1 q.2.mo) ((jS ids q.1 q.2.mo).map Z.o)) (λ_=>False) a w:=by
   exact Good.joined (cj hg) (.refl Z q.2.pc.modR q.2.pc.modO) sF.1 sF.2
  have key:∀(k:Nat) (ρ1:Env) (a':Act) (w:World),SameBut wr a a'->iY (q.2.pc.ev V N) Z (kQ q.1 q.2.mr) (jS ids q.1 q.2.mo) k ((kQ q.1 q.2.mr).map ρ1.r) ((jS ids q.1 q.2.mo).map ρ1.o)=some x->
        Good C w0 σ0 (q.1.st ids) (Z.join (kQ q.1 q.2.mr) (jS ids q.1 q.2.mo) ρ1) (λ_=>False) a' w->Code.roundsIn (FR rd) 0 C.P c1 (il C w0 σ0 ids fn s rm wr a none q.2.ex x) k a' w:=by
   intro k
   induction k with
   |zero=>intro ρ1 a' w hn hl hg;simp[iY] at hl
   |succ k ih=>
    intro ρ1 a' w kM hl hg;rw[roundsIn_succ];simp only[iY] at hl;change (match q.2.pc.ev V N (Z.join (kQ q.1 q.2.mr) (jS ids q.1 q.2.mo) ρ1) with|some (.next Z')=>_|y=>y)=some x at hl;cases dY:q.2.pc.ev V N (Z.join (kQ q.1 q.2.mr) (jS ids q.1 q.2.mo) ρ1) with
    |none=>rw[dY] at hl;simp at hl
    |some xi=>
     rw[dY] at hl;refine wpIn_mono (xn rm _ _ hs rd w0 σ0 wr _ xi a' w gl hC hY iW (kM.size.trans hn) hg dY) λe a2 w' g8=>?_;have other:e≠.normal->xi=x->il C w0 σ0 ids fn s rm wr a none q.2.ex x e a2 w':=by
         intro aI dC;subst dC;exact g8.mono (λy hy=>hy) kM (λe=>absurd e aI)
     cases e with
     |normal=>
      obtain⟨ρ2,S2,e1,e2,dN,iv⟩:=g8;subst e1;simp only at hl;refine ih ρ2 a2 w' (kM.trans dN) hl ?_
      have uI:Good C w0 σ0 (q.1.st ids) ρ2 (λ_=>False) a2 w':=by
       have:=iv.meet2 (x:=q.1)
       rwa [C2 S2 e2] at this
      refine uI.joined (mr':=kQ q.1 q.2.mr++q.2.pc.modR) (mo':=jS ids q.1 q.2.mo++q.2.pc.modO) ?_ (λt ht=>?_) (λj hj=>?_)
      .exact((Env.but.join Z ρ1 _ _).mono (λt ht=>kC _ ht) (λt ht=>kC _ ht)).trans
        ((PC.ev_but q.2.pc _ _ ρ2 dY rfl).mono (λt ht=>lg _ ht) (λt ht=>lg _ ht))
      .exact(dT.1 ht).elim Ol (sF.1 t)
      .exact(dT.1 hj).elim DD (sF.2 j)
     |exit id=>
      refine other (by simp) ?_;obtain⟨ρ1,S2,e1,_⟩:=g8;subst e1;simpa using hl
     |ret=>
      refine other (by simp) ?_;cases rm with
      |false=>obtain⟨d,e1,_⟩:=g8;subst e1;simpa using hl
      |true=>obtain⟨ρ1,S2,e1,_⟩:=g8;subst e1;simpa using hl
     |_=>exact g8.elim
  exact wpIn_loop_rounds N (key N Z a w (.refl _ _) he uH)
 |exit id=>
  intro rm S r h rd w0 σ0 wr Z x a w gl hC hY iW hn hg he;simp only[comp] at h;cases cU:Nat.beq id db<;>simp only[cU,zyv,zyu] at h
  case true=>cases h;exact absurd he (nE _ _ _ _)
  cases h;simp only[PC.ev,bx] at he;subst he;exact wpIn_exit ⟨Z,S,rfl,λe=>by subst e;simp at cU,by simp,.refl _ _,hg⟩
 |ret=>
  intro rm S r h rd w0 σ0 wr Z x a w gl hC hY iW hn hg he;simp only[comp] at h;cases rm<;>simp only[zyv,zyu] at h
  case true=>
   cases h;simp only[PC.ev,bx] at he;subst he;exact wpIn_ret ⟨Z,S,rfl,by simp,.refl _ _,hg⟩
  split at h
  .rename_i e Vg;cases h;simp only[PC.ev,bx] at he;subst he;obtain⟨H,own,hv,hi⟩:=hg;exact wpIn_ret ⟨_,rfl,Inv.retD hC (λ_=>rfl) (gl rfl).2 Vg _ hi rfl,.refl _ _⟩
  .cases h;exact absurd he (nE _ _ _ _)
 |rangeFunc g ps ca cb=>exact aBK gC (IH ca (by simp at hc;omega)) (IH cb (by simp at hc;omega))
 |_=>intro rm S r h rd w0 σ0 wr Z x a w gl hC hY iW hn hg he;simp only[comp,bx] at h;subst h;exact absurd he (nE _ _ _ _)
def aqz {N:Nat}(gC:gP C V)(hR:RK C n ids V R)(c:Code):yQ C V fn s n ids R N c:=aqA gC hR _ c (Nat.lt_succ_self _)
end
end Cx
