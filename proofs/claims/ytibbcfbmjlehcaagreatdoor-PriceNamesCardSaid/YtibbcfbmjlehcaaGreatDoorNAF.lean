/-
  Code: sequences, choices, blocks, loops.
-/
import Derived.LoopNIn
import Derived.Test.YtibbcfbmjlehcaaGreatDoorNAE
import Derived.LoopN
set_option linter.defProp false
set_option linter.unusedSimpArgs false
set_option linter.unusedVariables false
namespace Cx
open Go Go.RowKit
def aR (m t:Nat):Bool:= !Nat.beq (Nat.land 1 (Nat.shiftRight m t)) 0
def xR (m t:Nat):aR m t=m.testBit t:=by
 unfold aR Nat.testBit;show(!Nat.beq (1&&& (m>>>t)) 0)=((1&&& (m>>>t))!=0)
 generalize 1&&& (m>>>t)=x;cases x<;>rfl
def ir (t:Nat):Nat:=Nat.shiftLeft 1 t
def sG (t:Nat):aR (ir t) t=true:=by
 rw[xR];show(1<<<t).testBit t=true;simp[Nat.testBit_shiftLeft]
def gP (m k t:Nat):aR (Nat.lor m k) t=(aR m t||aR k t):=by
 simp only[xR];exact Nat.testBit_or m k t
def PI.mask:PI->Nat
 |.setR t _=>ir t|.call _ t _ _=>ir t|.callc _ t _ _=>ir t|_=>0
def Mf:List PI->Nat
 |[]=>0
 |p::l=>Nat.lor p.mask (Mf l)
def PI.objs:PI->List Nat
 |.setO j _=>[j]|.mcall j _ _=>[j]|_=>[]
def fL (l:List Nat)(x:Nat):Bool:=l.any (Nat.beq x)
def j3 (a b:List Nat):List Nat:=a.foldl (λacc x=>bif fL acc x then acc else x::acc) b
def afD (l:List PI):List Nat:=l.foldl (λacc p=>j3 p.objs acc) []
def rM (l:List Nat)(x:Nat):fL l x=true↔x∈l:=by
 unfold fL;rw[xx];constructor
 .rintro⟨y,hy,h⟩;rw[ay h];exact hy
 .intro h;exact⟨x,h,ke x⟩
def rN {x:Nat}:∀{a b:List Nat},x∈j3 a b↔x∈a\/x∈b
 |[],b=>by simp[j3]
 |y::a,b=>by
  have ih:=@rN x a (bif fL b y then b else y::b);have e:j3 (y::a) b=j3 a (bif fL b y then b else y::b):=rfl;rw[e,ih];cases hb:fL b y
  .simp[or_assoc,or_left_comm]
  .have:=(rM b y).1 hb;simp only[zyy,cB];constructor
   .rintro(h|h)
    .exact .inl (.inr h)
    .exact .inr h
   .rintro((h|h)|h)
    .subst h;exact .inr this
    .exact .inl h
    .exact .inr h
def aum {x:Nat}(l:List PI)(h:x∈l.flatMap PI.modO):x∈afD l:=by
 have key:∀(l:List PI) (acc:List Nat),(x∈l.flatMap PI.modO\/x∈acc)->x∈l.foldl (λacc p=>j3 p.objs acc) acc:=by
  intro l
  induction l with
  |nil=>intro acc h;simpa using h
  |cons p l ih=>
   intro acc h;refine ih _ ?_;rw[vn,dR] at h;rcases h with(h|h)|h
   .refine .inr (rN.2 (.inl ?_));cases p<;>simp_all [PI.modO,PI.objs]
   .exact .inl h
   .exact .inr (rN.2 (.inr h))
 exact key l [] (.inl h)
def afb {t:Nat}:∀(l:List PI),t∈l.flatMap PI.modR->aR (Mf l) t=true
 |[],h=>by simp at h
 |p::l,h=>by
  rw[vn,dR] at h;simp only[Mf,gP,kK];rcases h with h|h
  .left;cases p<;>simp[PI.modR] at h<;>subst h<;>exact sG _
  .exact .inr (afb l h)
structure Res2 where
 pc:PC
 out:Option Snap
 ex:List (Nat×Snap)
 mr:Nat
 mo:List Nat
 deriving Inhabited
def mZ:Option Snap->Option Snap->Option Snap
 |none,x=>x
 |x,none=>x
 |some a,some b=>some (a.meet b)
def qa (id:Nat):List (Nat×Snap)->Option Snap->Option Snap
 |[],acc=>acc
 |x::l,acc=>qa id l (bif Nat.beq x.1 id then mZ acc (some x.2) else acc)
def iter (step:Snap->Option Res2):Nat->Snap->Option (Snap×Res2)
 |0,_=>none
 |k+1,S=>(step S).bind λr=>
  match r.out with
  |none=>some (S,r)
  |some T=>bif (S.meet T).beq S then some (S,r) else iter step k (S.meet T)
def kW (S:Snap)(m:Nat):List Nat:=(List.range S.rs.length).filter λt=>aR m t&& !isNone (cK (S.rs.getD t .none))
def jU (ids:List Nat)(S:Snap)(l:List Nat):List Nat:=l.filter λj=> !p5 (dx ids S.os j)
def ia:Res2:=⟨.is [Iq],none,[],0,[]⟩
def nw (Z:aS)(N:Nat)(O:Env)(x:Out):ia.pc.ev Z N O≠some x:=by
 intro h;simp[ia,PC.ev,PI.runs,PI.run,Iq,PE.ev,D.b_bool] at h
def ny:(∀t,t∈ia.pc.modR->aR ia.mr t=true)/\∀j,j∈ia.pc.modO->j∈ia.mo:=by
 constructor<;>intro t h<;>simp[ia,PC.modR,PC.modO,PI.modR,PI.modO,Iq] at h
def cD:Code->List Nat
 |.region _ ops _=>ops.toList.filterMap (·.dst)
 |.seq a b=>cD a++cD b
 |.cond _ a b=>cD a++cD b
 |.block _ a=>cD a
 |.loop a=>cD a
 |_=>[]
def y7 (l:List Nat):Nat:=l.foldr (λt m=>Nat.lor (ir t) m) 0
def uV (m:Nat):Nat->List Sh->List Sh
 |_,[]=>[]
 |t,s::l=>(bif aR m t then .none else s)::uV m (t+1) l
def Snap.mask (m:Nat)(S:Snap):Snap:=⟨uV m 0 S.rs,S.os⟩
def uM:Sh->Sh
 |.yv=>.none
 |s=>s
def tL:List Nat->List Ty->List Sh->List Sh
 |p::ps,y::ys,l=>tL ps ys (l.set p (.dat y))
 |_,_,l=>l
def Snap.start (ps:List Nat)(ys:List Ty)(S:Snap):Snap:=⟨tL ps ys (S.rs.map uM),S.os⟩
def ae4 (ids:List Nat)(l:List Snap)(mo:List Nat):List Nat:=mo.filter λj=>l.any λS=> !p5 (dx ids S.os j)
def awQ (wm:Nat)(ra rb:Res2):Res2:=
 let m:=Nat.lor wm (Nat.lor ra.mr rb.mr)
 ⟨.seq ra.pc rb.pc,rb.out.map (Snap.mask m),rb.ex.map (λx=>(x.1,x.2.mask m)),m,j3 ra.mo rb.mo⟩
def gQ (ids:List Nat)(id:Nat)(r:Res2):Res2:=
    match qa id r.ex r.out with
    |some M=>⟨.block id (kW M r.mr) (jU ids M r.mo) r.pc,some M,r.ex.filter λx=> !Nat.beq x.1 id,r.mr,r.mo⟩
    |none=>⟨.block id [] [] r.pc,none,r.ex.filter λx=> !Nat.beq x.1 id,r.mr,r.mo⟩
def wz:List (Nat×Nat)->Nat->Option Nat
 |[],_=>none
 |x::l,t=>bif Nat.beq x.1 t then some x.2 else wz l t
def lQ (pr:Nat):List Oper->List (Nat×Nat)->Option (List (Nat×Nat))
 |[],acc=>some acc
 |o::l,acc=>
  match o.dst,o.guard with
  |some d,none=>
   bif Nat.beq d pr||(wz acc d).isSome then none else
   match o.op with
   |.extract (.tmp t) i=>bif Nat.beq t pr&&Nat.ble i 1 then lQ pr l (acc++[(d,i)]) else none
   |.assign (.tmp t)=>(wz acc t).bind λi=>lQ pr l (acc++[(d,i)])
   |.move (.tmp t)=>(wz acc t).bind λi=>lQ pr l (acc++[(d,i)])
   |_=>none
  |_,_=>none
structure MP where
 it:Nat
 nx:Nat
 mo:Nat
 out:Nat
 next:Nat
 pr:Nat
 ops1:Array Oper
 ops2:Array Oper
 aa:List (Nat×Nat)
 deriving Inhabited
def Cr (x y:Code)(k:Nat)(z:Code):Option MP:=
 match x,y,z with
 |.region _ ops1 false,.cond (.tmp mo) .skip (.exit out),.region _ ops2 false=>
  match ops1.toList,ops2.toList with
  |[o1,o2],o3::l=>
   match o1.dst,o1.guard,o1.op,o2.dst,o2.guard,o2.op,o3.dst,o3.guard,o3.op with
   |some nx,none,.next (.tmp it) false,some mo',none,.extract (.tmp nx') 0,some pr,none,.entry (.tmp it')=>
    bif Nat.beq mo mo'&&Nat.beq nx nx'&&Nat.beq it it'&& !Nat.beq it nx&& !Nat.beq it mo&& !Nat.beq it pr&& !Nat.beq nx mo&& !Nat.beq out cR&& !Nat.beq k cR then
     (lQ pr l []).map λaa=>⟨it,nx,mo,out,k,pr,ops1,ops2,aa⟩
    else none
   |_,_,_,_,_,_,_,_,_=>none
  |_,_=>none
 |_,_,_=>none
def yY:List Nat->Nat->List Ob->List Ob
 |i::is,J,o::os=>(bif Nat.beq i J then .dead else o)::yY is J os
 |_,_,os=>os
def Snap.kill (ids:List Nat)(J:Nat)(S:Snap):Snap:=⟨S.rs,yY ids J S.os⟩
def aeq (J:Nat)(kt et:Ty)(ids:List Nat)(p:MP)(m:Nat)(S:Snap):Bool:=
 Sh.beq (S.rs.getD p.it .none) (.obj J 0)&&Ob.beq (dx ids S.os J) (.it kt et)&& !aR m p.it
def Cs (ids:List Nat)(n:Nat)(p:MP)(ws:List Nat)(f:Snap->Option Res2)(S:Snap):Option Res2:=
 match cK (S.rs.getD p.it .none) with
 |.obj J 0=>
  match dx ids S.os J with
  |.it kt et=>
   let ps:=p.aa.map (·.1)
   let ys:=p.aa.map λx=>bif Nat.beq x.2 0 then kt else et
   let m:=y7 ws
   match iter (λS=>(f ((S.mask m).start ps ys)).map (gQ ids p.next)) 8 S with
   |some r=>
    bif r.2.ex.isEmpty&& !fL r.2.mo J&&aeq J kt et ids p m r.1&&gZ ps&&ps.all (λt=>Nat.blt t n)&&Nat.blt p.nx n&&Nat.blt p.mo n&&Nat.blt p.pr n&&Nat.beq (Nat.lor m r.2.mr) m then
       some ⟨.seq (.meach J ps (p.aa.map (·.2)) (jU ids r.1 r.2.mo) r.2.pc) (.exit p.out),none,[(p.out,(r.1.mask m).kill ids J)],0,r.2.mo⟩
    else some ia
   |none=>some ia
  |_=>some ia
 |_=>some ia
def comp (C:Ctx)(fn:Func)(s:Sig)(n:Nat)(ids:List Nat)(R:Array Oper->Bool->Snap->Option (Snap×List PI)):Bool->Code->Snap->Option Res2
 |_,.skip,S=>some ⟨.skip,some S,[],0,[]⟩
 |_,.region _ ops draw,S=>(R ops draw S).map λr=>⟨.is r.2,some r.1,[],Mf r.2,afD r.2⟩
 |rm,.seq a b,S=>(comp C fn s n ids R rm a S).bind λr=>
  match r.out with
  |none=>some r
  |some S1=>(comp C fn s n ids R rm b S1).map λq=>⟨.seq r.pc q.pc,q.out,r.ex++q.ex,Nat.lor r.mr q.mr,j3 r.mo q.mo⟩
 |rm,.cond c a b,S=>
  match use C (S.st ids) [] c with
  |some (.bool,e)=>
   (comp C fn s n ids R rm a S).bind λr=>(comp C fn s n ids R rm b S).map λq=>
     match mZ r.out q.out with
     |some M=>⟨.ite e (kW M (Nat.lor r.mr q.mr)) (jU ids M (j3 r.mo q.mo)) r.pc q.pc,some M,r.ex++q.ex,Nat.lor r.mr q.mr,j3 r.mo q.mo⟩
     |none=>⟨.ite e [] [] r.pc q.pc,none,r.ex++q.ex,Nat.lor r.mr q.mr,j3 r.mo q.mo⟩
  |_=>some ia
 |rm,.block id a,S=>bif Nat.beq id cR then some ia else(comp C fn s n ids R rm a S).map (gQ ids id)
 |rm,.loop (.seq x (.seq y (.block k (.seq z code)))),S=>
  (match Cr x y k z with
  |some p=>Cs ids n p (cD x++(cD y++(cD z++cD code))) (λS=>comp C fn s n ids R rm code S) S
  |none=>
  match iter (λS=>comp C fn s n ids R rm (.seq x (.seq y (.block k (.seq z code)))) S) 8 S with
  |some r=>some ⟨.loop (kW r.1 r.2.mr) (jU ids r.1 r.2.mo) r.2.pc,none,r.2.ex,r.2.mr,r.2.mo⟩
  |none=>some ia)
 |rm,.loop a,S=>
  match iter (λS=>comp C fn s n ids R rm a S) 8 S with
  |some r=>some ⟨.loop (kW r.1 r.2.mr) (jU ids r.1 r.2.mo) r.2.pc,none,r.2.ex,r.2.mr,r.2.mo⟩
  |none=>some ia
 |_,.exit id,S=>bif Nat.beq id cR then some ia else some ⟨.exit id,none,[(id,S)],0,[]⟩
 |rm,.ret,S=>
  bif rm then some ⟨.exit cR,none,[(cR,S)],0,[]⟩ else
  match zH C fn s (S.st ids) with
  |some e=>some ⟨.ret e,none,[],0,[]⟩
  |none=>some ia
 |rm,.rangeFunc g ps a b,S=>
  match rm,C.yl,use C (S.st ids) [] g with
  |false,none,some (.fn aa r,e)=>
   match oG aa r with
   |some ys=>
    match iter (λS=>(comp C fn s n ids R true a (S.start ps.toList ys)).bind λra=>
          match ra.out,ra.ex with
          |some S1,[]=>(comp C fn s n ids R true b S1).map (awQ (y7 (ps.toList++cD a++cD b)) ra)
          |_,_=>none) 8 S with
    |some r=>
     bif Nat.beq ys.length ps.size&&gZ ps.toList&&ps.toList.all (λp=>Nat.blt p n)&&Nat.ble r.1.rs.length n then
           some ⟨.seq (.is [.callc [] n e []]) (.each (.r n) ps.toList (ae4 ids (r.1::r.2.ex.map (·.2)) r.2.mo) ((qa cR r.2.ex none).bind λM=>zH C fn s (M.st ids)) r.2.pc),
            some r.1,r.2.ex.filter (λx=> !Nat.beq x.1 cR),ir n,r.2.mo⟩
     else some ia
    |none=>some ia
   |none=>some ia
  |_,_,_=>some ia
 |_,_,_=>some ia
termination_by structural _ c=>c
def y5:Code->Option (MP×Code×List Nat)
 |.seq x (.seq y (.block k (.seq z code)))=>(Cr x y k z).map λp=>(p,code,cD x++(cD y++(cD z++cD code)))
 |_=>none
def abp (C:Ctx)(fn:Func)(s:Sig)(n:Nat)(ids:List Nat)(R:Array Oper->Bool->Snap->Option (Snap×List PI))(rm:Bool)(a:Code)(S:Snap):comp C fn s n ids R rm (.loop a) S=
 match y5 a with
 |some q=>Cs ids n q.1 q.2.2 (λS=>comp C fn s n ids R rm q.2.1 S) S
 |none=>
  match iter (λS=>comp C fn s n ids R rm a S) 8 S with
  |some r=>some ⟨.loop (kW r.1 r.2.mr) (jU ids r.1 r.2.mo) r.2.pc,none,r.2.ex,r.2.mr,r.2.mo⟩
  |none=>some ia:=by
 by_cases h:∃x y k z code,a=.seq x (.seq y (.block k (.seq z code)))
 .obtain⟨x,y,k,z,code,rfl⟩:=h
  conv=>lhs;unfold comp
  simp only[y5];cases Cr x y k z<;>rfl
 .have e:y5 a=none:=by
   unfold y5;split
   .rename_i x y k z code;exact absurd ⟨x,y,k,z,code,rfl⟩ h
   .rfl
  rw[e];rw[comp];intro x y k z code e;exact h ⟨x,y,k,z,code,e⟩
def subs:Code->List Code
 |.seq a b=>.seq a b::(subs a++subs b)
 |.cond c a b=>.cond c a b::(subs a++subs b)
 |.block i a=>.block i a::subs a
 |.loop a=>.loop a::subs a
 |.rangeFunc g ps a b=>.rangeFunc g ps a b::(subs a++subs b)
 |c=>[c]
def axv (c:Code):c∈subs c:=by cases c<;>simp[subs]
def aGK {a code:Code}{p:MP}{ws:List Nat}(h:y5 a=some (p,code,ws)):code∈subs a:=by
 unfold y5 at h;split at h
 .simp only[aA] at h;obtain⟨q,_,e⟩:=h;cases e;simp[subs,axv]
 .cases h
def Pd (C:Ctx)(n:Nat)(ids:List Nat)(Z:aS)(R:Array Oper->Bool->Snap->Option (Snap×List PI)):Prop:=
 ∀(id:Nat) (ops:Array Oper) (draw:Bool) (S:Snap) (r:Snap×List PI),R ops draw S=some r->
  ∀(rd:Option Nat) (w0:World) (σ0:Base) (O O':Env) (a:Act) (w:World) (Q:Exit->Act->World->Prop),CtxOK C σ0->ub C Z w0 σ0->a.tmps.size=n->Good C w0 σ0 (S.st ids) O (λ_=>False) a w->PI.runs Z r.2 O=some O'->
   (∀a' w',SameBut (Bt ops) a a'->Good C w0 σ0 (r.1.st ids) O' (λ_=>False) a' w'->Q .normal a' w')->(Code.region id ops draw).wpIn (FR rd) 0 C.P Q a w
section
variable {C:Ctx} {O O':Env} {V:Im} {own:Nat->Option Nat} {hv:Nat->Value} {w0:World} {σ0:Base} {A:Nat->Prop} {a:Act} {w:World} {Z:aS} {n:Nat} {ids:List Nat} {fn:Func} {s:Sig}
 {R:Array Oper->Bool->Snap->Option (Snap×List PI)}
def il (C:Ctx)(w0:World)(σ0:Base)(ids:List Nat)(fn:Func)(s:Sig)(rm:Bool)(wr:Nat->Prop)(a0:Act)(out:Option Snap)(ex:List (Nat×Snap))(x:Out):Exit->Act->World->Prop
 |.normal,a,w=>∃O S,x=.next O/\out=some S/\SameBut wr a0 a/\Good C w0 σ0 (S.st ids) O (λ_=>False) a w
 |.exit id,a,w=>∃O S,x=.exit id O/\id≠cR/\(id,S)∈ex/\SameBut wr a0 a/\Good C w0 σ0 (S.st ids) O (λ_=>False) a w
 |.ret,a,w=>match rm with
  |false=>∃d,x=.ret d/\sD C w0 σ0 fn s d a.tmps a.defers w/\SameBut wr a0 a
  |true=>∃O S,x=.exit cR O/\(cR,S)∈ex/\SameBut wr a0 a/\Good C w0 σ0 (S.st ids) O (λ_=>False) a w
 |_,_,_=>False
def Good.meet1 {x y:Snap}(h:Good C w0 σ0 (x.st ids) O A a w):Good C w0 σ0 ((x.meet y).st ids) O (λ_=>False) a w:=by
 obtain⟨V,own,hv,h⟩:=h;exact⟨V,own,hv,Snap.meet_ok1 h⟩
def Good.meet2 {x y:Snap}(h:Good C w0 σ0 (y.st ids) O A a w):Good C w0 σ0 ((x.meet y).st ids) O (λ_=>False) a w:=by
 obtain⟨V,own,hv,h⟩:=h;exact⟨V,own,hv,Snap.meet_ok2 h⟩
def afi {x:Snap}{y:Option Snap}{M:Snap}(h:Good C w0 σ0 (x.st ids) O (λ_=>False) a w)(hm:mZ (some x) y=some M):Good C w0 σ0 (M.st ids) O (λ_=>False) a w:=by
 cases y<;>simp[mZ] at hm<;>subst hm
 .exact h
 .exact h.meet1
def afj {x:Option Snap}{y:Snap}{M:Snap}(h:Good C w0 σ0 (y.st ids) O (λ_=>False) a w)(hm:mZ x (some y)=some M):Good C w0 σ0 (M.st ids) O (λ_=>False) a w:=by
 cases x<;>simp[mZ] at hm<;>subst hm
 .exact h
 .exact h.meet2
def afk {x:Snap}{y:Option Snap}:∃M,mZ (some x) y=some M:=by cases y<;>simp[mZ]
def afl {x:Option Snap}{y:Snap}:∃M,mZ x (some y)=some M:=by cases x<;>simp[mZ]
def Mg {id:Nat}:∀(l:List (Nat×Snap)) {x:Snap},Good C w0 σ0 (x.st ids) O (λ_=>False) a w->∃M,qa id l (some x)=some M/\Good C w0 σ0 (M.st ids) O (λ_=>False) a w
 |[],x,h=>⟨x,rfl,h⟩
 |y::l,x,h=>by
  simp only[qa];cases Nat.beq y.1 id
  .exact Mg l h
  .obtain⟨M,hM⟩:=@afk x (some y.2);simp only[zyy,hM];exact Mg l (afi h hM)
def Tv {id:Nat}{S:Snap}(h:Good C w0 σ0 (S.st ids) O (λ_=>False) a w):∀(l:List (Nat×Snap)) (x:Option Snap),(id,S)∈l->∃M,qa id l x=some M/\Good C w0 σ0 (M.st ids) O (λ_=>False) a w
 |y::l,x,hm=>by
  simp only[qa];rcases cB.1 hm with e|hm
  .subst e;simp only[ke,zyy];obtain⟨M,hM⟩:=@afl x S;rw[hM];exact Mg l (afj h hM)
  .exact Tv h l _ hm
def Gm {step:Snap->Option Res2}:∀(k:Nat) {S:Snap} {r:Snap×Res2},iter step k S=some r->
 step r.1=some r.2/\(∀T,r.2.out=some T->r.1.meet T=r.1)/\∀{O:Env} {a:Act} {w:World},Good C w0 σ0 (S.st ids) O (λ_=>False) a w->Good C w0 σ0 (r.1.st ids) O (λ_=>False) a w
 |0,S,r,h=>by simp[iter] at h
 |k+1,S,r,h=>by
  simp only[iter,az] at h;obtain⟨q,hq,h⟩:=h;split at h
  .rename_i ho;cases h;exact⟨hq,λT hT=>by simp[ho] at hT,λg=>g⟩
  .rename_i T ho;cases hb:(S.meet T).beq S<;>simp only[hb,zyy,zyx] at h
   .obtain⟨h1,h2,h3⟩:=Gm k h;exact⟨h1,h2,λg=>h3 g.meet1⟩
   .cases h;refine⟨hq,λT' hT=>?_,λg=>g⟩;simp only[ho,aY] at hT;subst hT;exact Snap.beq_eq _ _ hb
def aew {step:Snap->Option Res2}{hv:Nat->Value}:∀(k:Nat) {S:Snap} {r:Snap×Res2},iter step k S=some r->Inv C (S.st ids) O V own hv w0 σ0 (λ_=>False) a w->Inv C (r.1.st ids) O V own hv w0 σ0 (λ_=>False) a w
 |0,S,r,h,_=>by simp[iter] at h
 |k+1,S,r,h,i=>by
  simp only[iter,az] at h;obtain⟨q,hq,h⟩:=h;split at h
  .cases h;exact i
  .rename_i T ho;cases hb:(S.meet T).beq S<;>simp only[hb,zyy,zyx] at h
   .exact aew k h (Snap.meet_ok1 i)
   .cases h;exact i
def Good.joined {M:Snap}{m:Nat}{mo mr' mo':List Nat}(h:Good C w0 σ0 (M.st ids) O' (λ_=>False) a w)(hb:O.but O' mr' mo')(h1:∀t,t∈mr'->aR m t=true)(h2:∀j,j∈mo'->j∈mo):
 Good C w0 σ0 (M.st ids) (O.join (kW M m) (jU ids M mo) O') (λ_=>False) a w:=by
 obtain⟨V,own,hv,h⟩:=h;refine⟨V,own,hv,h.env (Snap.noOpt _ _) (λt ht=>?_) (λj hj=>?_)⟩
 .simp only[Env.join,Env.put,u7];split
  .rfl
  .rename_i hm;refine(hb.r t λFJ=>hm ?_).symm;have af:t<M.rs.length:=by
        refine aat λhle=>?_;simp only[Snap.st,aF,j9 hle,Option.getD_none,cK,isNone] at ht;cases ht
   exact eT.2 ⟨fS.2 af,by rw[h1 t FJ];simpa [Snap.st] using ht⟩
 .simp only[Env.join,Env.put,u7];split
  .rfl
  .rename_i hm;refine(hb.o j λFJ=>hm ?_).symm;exact eT.2 ⟨h2 j FJ,by simpa [Snap.st] using hj⟩
def Mh {S:Snap}{m t:Nat}(h:t∈kW S m):aR m t=true:=by
 have:=(eT.1 h).2;simp only[ao] at this;exact this.1
def Ct {S:Snap}{l:List Nat}{j:Nat}(h:j∈jU ids S l):j∈l:=(eT.1 h).1
def aa0 {id:Nat}{q:Res2}(h:(∀t,t∈q.pc.modR->aR q.mr t=true)/\∀j,j∈q.pc.modO->j∈q.mo):(∀t,t∈(gQ ids id q).pc.modR->aR (gQ ids id q).mr t=true)/\∀j,j∈(gQ ids id q).pc.modO->j∈(gQ ids id q).mo:=by
 unfold gQ;cases hm:qa id q.ex q.out<;>simp only
 .simpa [PC.modR,PC.modO] using h
 .refine⟨λt ht=>?_,λj hj=>?_⟩
  .simp only[PC.modR,dR] at ht;exact ht.elim Mh (h.1 t)
  .simp only[PC.modO,dR] at hj;exact hj.elim Ct (h.2 j)
def aue {p:MP}{ws:List Nat}{f:Snap->Option Res2}{S:Snap}{r:Res2}(h:Cs ids n p ws f S=some r):(∀t,t∈r.pc.modR->aR r.mr t=true)/\∀j,j∈r.pc.modO->j∈r.mo:=by
 unfold Cs at h;split at h
 case h_2=>cases h;exact ny
 split at h
 case h_2=>cases h;exact ny
 simp only at h;split at h
 case h_2=>cases h;exact ny
 rw[qD] at h;split at h
 .cases h;refine⟨λt ht=>by simp[PC.modR] at ht,λj hj=>?_⟩;simp only[PC.modO,tX] at hj;exact Ct hj
 .cases h;exact ny
def vD:∀(c:Code) {rm:Bool} {S:Snap} {r:Res2},comp C fn s n ids R rm c S=some r->(∀t,t∈r.pc.modR->aR r.mr t=true)/\∀j,j∈r.pc.modO->j∈r.mo:=by
 intro c
 induction c with
 |skip=>intro rm S r h;simp only[comp,aY] at h;subst h;simp[PC.modR,PC.modO]
 |region id ops draw=>
  intro rm S r h;simp only[comp,aA] at h;obtain⟨q,_,rfl⟩:=h;exact⟨λt ht=>afb _ ht,λj hj=>aum _ hj⟩
 |seq x y jT yV=>
  intro rm S r h;simp only[comp,az] at h;obtain⟨q,hq,h⟩:=h;split at h
  .cases h;exact jT hq
  .simp only[aA] at h;obtain⟨p,hp,rfl⟩:=h;refine⟨λt ht=>?_,λj hj=>?_⟩
   .simp only[PC.modR,dR] at ht;rw[gP,kK];exact ht.imp ((jT hq).1 t) ((yV hp).1 t)
   .simp only[PC.modO,dR] at hj;rw[rN];exact hj.imp ((jT hq).2 j) ((yV hp).2 j)
 |cond c x y jT yV=>
  intro rm S r h;simp only[comp] at h;split at h
  case h_2=>cases h;exact ny
  rename_i e _;simp only[az,aA] at h;obtain⟨q,hq,p,hp,rfl⟩:=h;cases hm:mZ q.out p.out<;>simp only[hm]
  .refine⟨λt ht=>?_,λj hj=>?_⟩
   .simp only[PC.modR,dR,xC] at ht;rw[gP,kK];exact ht.imp ((jT hq).1 t) ((yV hp).1 t)
   .simp only[PC.modO,dR,xC] at hj;rw[rN];exact hj.imp ((jT hq).2 j) ((yV hp).2 j)
  .refine⟨λt ht=>?_,λj hj=>?_⟩
   .simp only[PC.modR,dR] at ht;rw[gP,kK];rcases ht with(ht|ht)|ht
    .have:=Mh ht;rw[gP,kK] at this;exact this
    .exact .inl ((jT hq).1 t ht)
    .exact .inr ((yV hp).1 t ht)
   .simp only[PC.modO,dR] at hj;rcases hj with(hj|hj)|hj
    .exact Ct hj
    .exact rN.2 (.inl ((jT hq).2 j hj))
    .exact rN.2 (.inr ((yV hp).2 j hj))
 |block id x jT=>
  intro rm S r h;simp only[comp] at h;cases cM:Nat.beq id cR<;>simp only[cM,zyy,zyx] at h
  case true=>cases h;exact ny
  simp only[aA] at h;obtain⟨q,hq,rfl⟩:=h;exact aa0 (jT hq)
 |loop x jT=>
  intro rm S r h;rw[abp] at h;split at h
  .exact aue h
  split at h
  case h_2=>cases h;exact ny
  rename_i q hq;cases h;have hs:=(Gm (C:=C) (w0:=default) (σ0:=Base.mk0 ⟨λ_ _=>none,λ_=>none⟩ 0) (ids:=ids) 8 hq).1;refine⟨λt ht=>?_,λj hj=>?_⟩
  .simp only[PC.modR,dR] at ht;exact ht.elim Mh ((jT hs).1 t)
  .simp only[PC.modO,dR] at hj;exact hj.elim Ct ((jT hs).2 j)
 |exit id=>
  intro rm S r h;simp only[comp] at h;cases cM:Nat.beq id cR<;>simp only[cM,zyy,zyx] at h<;>cases h
  .simp[PC.modR,PC.modO]
  .exact ny
 |ret=>
  intro rm S r h;simp only[comp] at h;cases rm<;>simp only[zyy,zyx] at h
  case true=>cases h;simp[PC.modR,PC.modO]
  split at h
  .cases h;simp[PC.modR,PC.modO]
  .cases h;exact ny
 |rangeFunc g ps x y _ _=>
  intro rm S r h;simp only[comp] at h;split at h
  case h_2=>cases h;exact ny
  split at h
  case h_2=>cases h;exact ny
  split at h
  case h_2=>cases h;exact ny
  rename_i q hq;rw[qD] at h;split at h
  .cases h;refine⟨λt ht=>?_,λj hj=>?_⟩
   .simp[PC.modR,PI.modR] at ht;subst ht;exact sG _
   .simp only[PC.modO,PI.modO,vn,List.flatMap_nil,tX,xC] at hj;exact(eT.1 hj).1
  .cases h;exact ny
 |_=>intro rm S r h;simp only[comp,aY] at h;subst h;exact ny
def il.mono {rm:Bool}{wr:Nat->Prop}{a0 a1:Act}{out ahh:Option Snap}{ex ex':List (Nat×Snap)}{x:Out}{e:Exit}(h:il C w0 σ0 ids fn s rm wr a0 out ex x e a w)(he:∀y,y∈ex->y∈ex')(hs:SameBut wr a1 a0)
 (ho:e=.normal->ahh=out):il C w0 σ0 ids fn s rm wr a1 ahh ex' x e a w:=by
 cases e with
 |normal=>obtain⟨O,S,h1,h2,h3,h4⟩:=h;exact⟨O,S,h1,by rw[ho rfl];exact h2,hs.trans h3,h4⟩
 |exit id=>obtain⟨O,S,h1,h2,h3,h4,h5⟩:=h;exact⟨O,S,h1,h2,he _ h3,hs.trans h4,h5⟩
 |ret=>
  cases rm with
  |false=>obtain⟨d,h1,h2,h3⟩:=h;exact⟨d,h1,h2,hs.trans h3⟩
  |true=>obtain⟨O,S,h1,h3,h4,h5⟩:=h;exact⟨O,S,h1,he _ h3,hs.trans h4,h5⟩
 |_=>exact h.elim
def abL {body:Env->Option Out}{O:Env}{ps lo:List Nat}{rt:Option PE}{x:Out}:∀{xs vo:List D},jq body O ps lo rt xs vo=some x->
 ∃(m:Nat) (nB:Nat->List D),m<=xs.length/\nB 0=vo/\
  (∀i,i<m->∃y O',xs[i]?=some y/\body (O.put ps (partsOf ps y) lo (nB i))=some (.next O')/\lo.map O'.o=nB (i+1))/\
  ((m=xs.length/\x=.next (O.put [] [] lo (nB m)))\/
   (m<xs.length/\∃y id O',xs[m]?=some y/\body (O.put ps (partsOf ps y) lo (nB m))=some (.exit id O')/\
    ((id≠cR/\x=.exit id (O.put [] [] lo (lo.map O'.o)))\/(id=cR/\∃e,rt=some e/\x=.ret (e.ev (O.put [] [] lo (lo.map O'.o)))))))
 |[],vo,h=>by
  simp only[jq,aY] at h;exact⟨0,λ_=>vo,ba _,rfl,λi hi=>by omega,.inl ⟨rfl,h.symm⟩⟩
 |y::xs,vo,h=>by
  simp only[jq] at h;split at h
  .rename_i O' hb;obtain⟨m,nB,h1,h2,h3,h4⟩:=abL h;refine⟨m+1,λi=>match i with|0=>vo|i+1=>nB i,by simp;omega,rfl,λi hi=>?_,?_⟩
   .cases i with
    |zero=>exact⟨y,O',rfl,hb,h2.symm⟩
    |succ i=>simpa using h3 i (by omega)
   .rcases h4 with⟨e1,e2⟩|⟨e1,z,id,ρ2,e2,e3,e4⟩
    .exact .inl ⟨by simp[e1],e2⟩
    .exact .inr ⟨by simp;omega,z,id,ρ2,by simpa using e2,e3,e4⟩
  .rename_i id O' hb;refine⟨0,λ_=>vo,kg _,rfl,λi hi=>by omega,.inr ⟨by simp,y,id,O',rfl,hb,?_⟩⟩;cases cM:Nat.beq id cR<;>simp only[cM,zyy,zyx] at h
   .refine .inl ⟨λe=>?_,(tZ h).symm⟩;subst e;simp at cM
   .simp only[aA] at h;obtain⟨e,he,e2⟩:=h;exact .inr ⟨ay cM,e,he,e2.symm⟩
  .cases h
def aaX {l:List Nat}{t:Nat}(h:t∈l):aR (y7 l) t=true:=by
 induction l with
 |nil=>cases h
 |cons x l ih=>
  have e:y7 (x::l)=Nat.lor (ir x) (y7 l):=rfl;rw[e,gP];rcases cB.1 h with e|e
  .subst e;rw[sG];rfl
  .rw[ih e];simp
def Ts (m:Nat):∀(l:List Sh) (k t:Nat),(uV m k l).getD t .none=if aR m (k+t)=true then .none else l.getD t .none
 |[],k,t=>by simp[uV]
 |s::l,k,0=>by
  simp only[uV,sA,iS];cases aR m k<;>rfl
 |s::l,k,t+1=>by
  simp only[uV,DH];rw[Ts m l (k+1) t,show k+1+t=k+(t+1) by omega]
def Gw (m:Nat)(S:Snap)(t:Nat):((S.mask m).st ids).r t=if aR m t=true then .none else(S.st ids).r t:=by
 show cK ((uV m 0 S.rs).getD t .none)=if aR m t=true then .none else cK (S.rs.getD t .none);rw[Ts,gl];split<;>rfl
def auk {m:Nat}{x S:Snap}{t:Nat}(h:aR m t=true):((x.meet (S.mask m)).st ids).r t=.none:=by
 show cK ((List.zipWith jV x.rs (uV m 0 S.rs)).getD t .none)=.none;rcases OJ (f:=jV) x.rs (uV m 0 S.rs) t with h0|⟨s,u,h1,h2,h3⟩
 .rw[h0];rfl
 .rw[Ts,gl,if_pos h] at h2;subst h2;rw[h3];cases s<;>rfl
def Inv.maskR {S:Snap}{hv:Nat->Value}(h:Inv C (S.st ids) O V own hv w0 σ0 A a w)(m:Nat):Inv C ((S.mask m).st ids) O V own hv w0 σ0 (λ_=>False) a w:=by
 have hc:Compat (S.st ids) hv ((S.mask m).st ids) hv:=⟨λ_=>ba _,λ_ _=>rfl⟩
 refine h.weaken (λt=>?_) (λj=>?_) (Snap.noOpt _ _) (λj hj=>⟨hj,rfl⟩)
 .refine aG.mono' (O:=O) (.refl V) hc (Snap.noOpt _ _ t) ?_;rw[Gw];split
  .trivial
  .exact h.regs t
 .exact(h.objs j).mono (.refl V) hc rfl rfl (λk hk=>⟨hk,rfl⟩)
def WA:∀(ps:List Nat) (ys:List Ty) (l:List Sh),ps.length=ys.length->gZ ps=true->∀t,(tL ps ys l).getD t .none=.none\/(t∉ps/\(tL ps ys l).getD t .none=l.getD t .none)\/∃(i:Nat) (y:Ty),ps[i]?=some t/\ys[i]?=some y/\(tL ps ys l).getD t .none=.dat y
 |[],ys,l,_,_,t=>.inr (.inl ⟨by simp,by cases ys<;>rfl⟩)
 |p::ps,[],l,h,_,t=>by simp at h
 |p::ps,y::ys,l,h,hn,t=>by
  have lH:=qd hn;rw[ph] at lH;have dW:gZ ps=true:=by
   simp only[gZ,ao] at hn;exact hn.2
  show(tL ps ys (l.set p (.dat y))).getD t .none=_\/_\/_;rcases WA ps ys (l.set p (.dat y)) (by simpa using h) dW t with e|⟨e1,e2⟩|⟨i,z,e1,e2,e3⟩
  .exact .inl e
  .by_cases hp:t=p
   .subst hp;by_cases af:t<l.length
    .exact .inr (.inr ⟨0,y,rfl,rfl,by show(tL ps ys (l.set t (.dat y))).getD t .none=_;rw[e2];simp[aF,af]⟩)
    .left;rw[e2];simp[aF,af]
   .refine .inr (.inl ⟨by simp[hp,e1],?_⟩);show(tL ps ys (l.set p (.dat y))).getD t .none=_;rw[e2];simp only[aF,DI];rw[if_neg (λe=>hp e.symm)]
  .exact .inr (.inr ⟨i+1,z,by simpa using e1,by simpa using e2,e3⟩)
def nr:List Nat->List Value->Array Value->Array Value
 |p::ps,v::vs,T=>nr ps vs (T.setIfInBounds p v)
 |_,_,T=>T
def axa (ps:Array Nat)(vs:Array Value)(T:Array Value):(ps.zip vs).foldl (λT x=>T.setIfInBounds x.1 x.2) T=nr ps.toList vs.toList T:=by
 rw[<-Array.foldl_toList,Array.toList_zip];generalize ps.toList=l;generalize vs.toList=k
 induction l generalizing k T with
 |nil=>rfl
 |cons p l ih=>
  cases k with
  |nil=>rfl
  |cons v k=>simpa [nr] using ih (T.setIfInBounds p v) k
def aja:∀(ps:List Nat) (vs:List Value) (T:Array Value),(nr ps vs T).size=T.size
 |[],vs,T=>by cases vs<;>rfl
 |p::ps,[],T=>rfl
 |p::ps,v::vs,T=>by simp[nr,aja ps vs]
def N4:∀(ps:List Nat) (vs:List Value) (T:Array Value) (t:Nat),t∉ps->(nr ps vs T).getD t undef=T.getD t undef
 |[],vs,T,t,_=>by cases vs<;>rfl
 |p::ps,[],T,t,_=>rfl
 |p::ps,v::vs,T,t,h=>by
  simp only[cB,not_or] at h;simp only[nr];rw[N4 ps vs _ t h.2];simp only[fP,Dz];rw[if_neg (λe=>h.1 e.symm)]
def ai9:∀(ps:List Nat) (vs:List Value) (T:Array Value) (i t:Nat),ps.Nodup->ps.length=vs.length->(∀p,p∈ps->p<T.size)->ps[i]?=some t->(nr ps vs T).getD t undef=vs.getD i undef
 |p::ps,v::vs,T,0,t,hn,hl,af,h=>by
  simp at h;subst h;rw[ph] at hn;simp only[nr];rw[N4 ps vs _ p hn.1];simp[Dz,af p (fR ..)]
 |p::ps,v::vs,T,i+1,t,hn,hl,af,h=>by
  rw[ph] at hn;simp only[nr];have:=ai9 ps vs (T.setIfInBounds p v) i t hn.2 (by simpa using hl) (λq hq=>by simpa using af q (fw _ hq)) (by simpa using h);simpa using this
 |p::ps,[],T,i,t,hn,hl,af,h=>by simp at hl
 |[],vs,T,i,t,hn,hl,af,h=>by simp at h
def CL (f:Nat->D):∀(ps:List Nat) (vs:List D) (t:Nat),t∉ps->putL f ps vs t=f t
 |[],vs,t,_=>by cases vs<;>rfl
 |p::ps,[],t,_=>rfl
 |p::ps,v::vs,t,h=>by
  simp only[cB,not_or] at h;simp only[putL,bA _ _ h.1];exact CL f ps vs t h.2
def UU (f:Nat->D):∀(ps:List Nat) (vs:List D) (i t:Nat),ps.Nodup->ps.length=vs.length->ps[i]?=some t->putL f ps vs t=vs.getD i .none
 |p::ps,v::vs,0,t,hn,hl,h=>by
  simp at h;subst h;simp[putL,aN]
 |p::ps,v::vs,i+1,t,hn,hl,h=>by
  rw[ph] at hn;have ht:t∈ps:=ka (by simpa using h);have au:t≠p:=λe=>hn.1 (e▸ht);simp only[putL,bA _ _ au];have:=UU f ps vs i t hn.2 (by simpa using hl) (by simpa using h);simpa using this
 |p::ps,[],i,t,hn,hl,h=>by simp at hl
 |[],vs,i,t,hn,hl,h=>by simp at h
def avl (ps:List Nat)(ds:List D)(i:Nat)(h:i<ps.length):(partsOf ps (.tup ds)).getD i .none=ds.getD i .none:=by
 simp[partsOf,aF,h,D.tget]
def avk (ps:List Nat)(x:D):(partsOf ps x).length=ps.length:=by simp[partsOf]
def Inv.startR {S:Snap}{hv:Nat->Value}(h:Inv C (S.st ids) O V own hv w0 σ0 A a w){ps:List Nat}{ys:List Ty}{args:List Value}{ds:List D}{lo:List Nat}{vo:List D}(hl:ps.length=ys.length)(bn:gZ ps=true)(af:∀p,p∈ps->p<a.tmps.size)(ha:qB C V ys args ds)
 (hρ:O=O'.put [] [] lo vo):Inv C ((S.start ps ys).st ids) (O'.put ps (partsOf ps (.tup ds)) lo vo) V own hv w0 σ0 (λ_=>False) {tmps:=nr ps args a.tmps,defers:=[]} w:=by
 obtain⟨a1,a2,a3⟩:=ha;have hn:=qd bn;have hc:Compat (S.st ids) hv ((S.start ps ys).st ids) hv:=⟨λ_=>ba _,λ_ _=>rfl⟩
 have ho:∀j,(O'.put ps (partsOf ps (.tup ds)) lo vo).o j=O.o j:=λj=>by rw[hρ];rfl
 refine⟨trivial,h.ok,h.le,h.old,h.newc,h.newm,h.below,h.bw,h.owns,λt=>?_,λj=>(h.objs j).mono (.refl V) hc rfl (ho j) (λk hk=>⟨hk,rfl⟩),λt gs s e=>absurd e (Snap.noOpt _ _ t gs s),?_⟩
 .show aG C _ _ V hv (cK ((tL ps ys (S.rs.map uM)).getD t .none)) ((nr ps args a.tmps).getD t undef) (putL O'.r ps (partsOf ps (.tup ds)) t);rcases WA ps ys (S.rs.map uM) hl bn t with e|⟨e1,e2⟩|⟨i,y,e1,e2,e3⟩
  .rw[e];trivial
  .rw[e2,N4 _ _ _ _ e1,CL _ _ _ _ e1];have hr:=h.regs t;change aG C _ O V hv (cK (S.rs.getD t .none)) _ _ at hr;have hρr:O.r t=O'.r t:=by rw[hρ];show putL O'.r [] [] t=_;rfl
   rw[hρr] at hr;have e3:(S.rs.map uM).getD t .none=uM (S.rs.getD t .none):=by
        simp only[aF,cf];cases S.rs[t]?<;>rfl
   rw[e3];generalize S.rs.getD t .none=s at hr;cases s with
   |yv=>trivial
   |opt gs s=>trivial
   |none=>trivial
   |fclo f c=>exact aG.mono' (.refl V) hc (λ_ _ e=>by cases e) hr
   |agg l=>exact aG.mono' (.refl V) hc (λ_ _ e=>by cases e) hr
   |dat t=>exact hr
   |obj j v=>exact aG.mono' (.refl V) hc (λ_ _ e=>by cases e) hr
   |ptr j v o=>exact aG.mono' (.refl V) hc (λ_ _ e=>by cases e) hr
   |eptr j v o q=>exact aG.mono' (.refl V) hc (λ_ _ e=>by cases e) hr
  .rw[e3];have hi:i<ps.length:=(eM.1 e1).1;rw[ai9 ps args a.tmps i t hn (by omega) af e1,UU _ ps _ i t hn (by rw[avk]) e1,avl _ _ _ hi];exact a3 i y e2
 .obtain⟨t,fx,cx,h1,h2⟩:=h.frame;exact⟨t,fx,cx,h1,λj hj=>⟨(h2 j hj).1,by rw[ho j];exact(h2 j hj).2⟩⟩
def xJ (C:Ctx)(Z:aS)(fn:Func)(s:Sig)(n:Nat)(ids:List Nat)(R:Array Oper->Bool->Snap->Option (Snap×List PI))(N:Nat)(c:Code):Prop:=
 ∀(rm:Bool) (S:Snap) (r:Res2),comp C fn s n ids R rm c S=some r->∀(rd:Option Nat) (w0:World) (σ0:Base) (wr:Nat->Prop) (O:Env) (x:Out) (a:Act) (w:World),(rm=false->rd=none/\σ0.fin)->CtxOK C σ0->ub C Z w0 σ0->(∀t,t∈cD c->wr t)->a.tmps.size=n->
  Good C w0 σ0 (S.st ids) O (λ_=>False) a w->r.pc.ev Z N O=some x->c.wpIn (FR rd) 0 C.P (il C w0 σ0 ids fn s rm wr a r.out r.ex x) a w
structure Seg (V:Im) (own:Nat->Option Nat) (w:World) (V':Im) (own':Nat->Option Nat) (w':World):Prop where
 le:V.le V'
 below:Below 0 w w'
 same:∀k,k<w.heap.size->own k=none->w'.heap[k]?=w.heap[k]?
 ow:∀k j,own' k=some j->(∃i,own k=some i)\/w.heap.size<=k
 imm:∀k,((∃o x,V'.c k o=some x)\/∃x,V'.m k=some x)->(∃o x,V.c k o=some x)\/(∃x,V.m k=some x)\/(∃i,own k=some i)\/w.heap.size<=k
structure Free (L:Nat) (V:Im) (own:Nat->Option Nat):Prop where
 own:own L=none
 c:∀o,V.c L o=none
 m:V.m L=none
def Free.seg {L:Nat}{V':Im}{own':Nat->Option Nat}{w':World}(h:Free L V own)(hL:L<w.heap.size)(k:Seg V own w V' own' w'):Free L V' own':=by
 have FA:¬((∃o x,V'.c L o=some x)\/∃x,V'.m L=some x):=λe=>by
  rcases k.imm L e with⟨o,x,e⟩|⟨x,e⟩|⟨i,e⟩|e
  .rw[h.c o] at e;cases e
  .rw[h.m] at e;cases e
  .rw[h.own] at e;cases e
  .omega
 refine⟨?_,λo=>?_,?_⟩
 .cases e:own' L with
  |none=>rfl
  |some j=>
   rcases k.ow L j e with⟨i,e⟩|e
   .rw[h.own] at e;cases e
   .omega
 .cases e:V'.c L o with
  |none=>rfl
  |some x=>exact absurd (.inl ⟨o,x,e⟩) FA
 .cases e:V'.m L with
  |none=>rfl
  |some x=>exact absurd (.inr ⟨x,e⟩) FA
def akq (C:Ctx)(w0:World)(σ0:Base)(ids:List Nat)(wr:Nat->Prop)(a0:Act)(V:Im)(own:Nat->Option Nat)(w:World)(out:Option Snap)(ex:List (Nat×Snap))(x:Out)(e:Exit)(a':Act)(w':World):Prop:=
 ∃O' S' V' own' hv',Inv C (S'.st ids) O' V' own' hv' w0 σ0 (λ_=>False) a' w'/\Seg V own w V' own' w'/\SameBut wr a0 a'/\
  match e with
  |.normal=>x=.next O'/\out=some S'
  |.exit id=>x=.exit id O'/\id≠cR/\(id,S')∈ex
  |.ret=>x=.exit cR O'/\(cR,S')∈ex
  |_=>False
def ai4 {N:Nat}{c:Code}(hc:xJ C Z fn s n ids R N c){S:Snap}{r:Res2}(hr:comp C fn s n ids R true c S=some r)(me:C.yl=none)(hC:CtxOK C σ0){wr:Nat->Prop}{O:Env}{x:Out}{hv:Nat->Value}(h:Inv C (S.st ids) O V own hv w0 σ0 (λ_=>False) a w)
 (gA:∀t,t∈cD c->wr t) (hn:a.tmps.size=n) (he:r.pc.ev Z N O=some x) (L:Nat):c.wpIn (FR (some L)) 0 C.P (akq C w0 σ0 ids wr a V own w r.out r.ex x) a w:=by
 obtain⟨t,fx,cx,dV,ht⟩:=h.frame;have h1:=h.toRnd (X:=λ_=>False) ht;refine wpIn_mono (hc true S r hr (some L) w0 (σ0.rnd V own w t λ_=>False) wr O x a w (λe=>by cases e) (hC.mono h.le) (λJ ys e=>by rw[me] at e;cases e) gA hn ⟨_,_,_,h1⟩ he) λe a' w' ho=>?_
 have main:∀{S':Snap} {O':Env},SameBut wr a a'->Good C w0 (σ0.rnd V own w t λ_=>False) (S'.st ids) O' (λ_=>False) a' w'->∃V' own' hv',Inv C (S'.st ids) O' V' own' hv' w0 σ0 (λ_=>False) a' w'/\Seg V own w V' own' w'/\SameBut wr a a':=by
  intro S' O' hs hg;obtain⟨V',own',hv',h2⟩:=hg;exact⟨V',own',hv',h.ofRnd dV (λ_ _=>id) h2,⟨h2.le,h.rndBelow h2,λk hk ho=>Inv.rndSame h.ok h2 hk ho id,λk j e=>Inv.rndOwn h2 e id,λk e=>Inv.rndC h2 e id⟩,hs⟩
 cases e with
 |normal=>
  obtain⟨O',S',e1,e2,e3,e4⟩:=ho;obtain⟨V',own',hv',g1,g2,g3⟩:=main e3 e4;exact⟨O',S',V',own',hv',g1,g2,g3,e1,e2⟩
 |exit id=>
  obtain⟨O',S',e1,e0,e2,e3,e4⟩:=ho;obtain⟨V',own',hv',g1,g2,g3⟩:=main e3 e4;exact⟨O',S',V',own',hv',g1,g2,g3,e1,e0,e2⟩
 |ret=>
  obtain⟨O',S',e1,e2,e3,e4⟩:=ho;obtain⟨V',own',hv',g1,g2,g3⟩:=main e3 e4;exact⟨O',S',V',own',hv',g1,g2,g3,e1,e2⟩
 |_=>exact ho.elim
def Inv.putL {L:Nat}{hv:Nat->Value}{S:St}{O:Env}(h:Inv C S O V own hv w0 σ0 A a w)(hL:w0.heap.size<=L)(hf:Free L V own)(hx:∀t fx cx,FrOK V own w0.heap.size σ0 w t fx cx->¬fx L)(o:Obj):Inv C S O V own hv w0 σ0 A a (w.putObj L o):=
 h.keep (X:=λk=>k≠L) ⟨rfl,rfl,rfl,by simp,λk hk=>by omega⟩ (λk hk=>World.putObj_heap_other hk) (λk hk=>by omega) (λk j e1 e2=>by subst e2;rw[hf.own] at e1;cases e1) (λk o v e1 e2=>by subst e2;rw[hf.c] at e1;cases e1)
  (λk v e1 e2=>by subst e2;rw[hf.m] at e1;cases e1) (λt fx cx dV k hk e=>by subst e;exact hx t fx cx dV hk)
def aAX {o:Oper}{L:Nat}{x:Operand}{aa:Array Operand}{ts:Array TypeId}{r:Loop}(eF:o.op=.call {callee:=.value x,args:=aa,argTypes:=ts})(hx:a.eval x=.func (.yield L) #[] #[])(hL:w.heap[L]?=some (.loop r))(hs:aa.size=r.params.size):
 (execOp a.eval o).run C.P w=.ok (.round L r.fn ((r.params.zip (aa.map a.eval)).foldl (λtmps (t,v)=>tmps.setIfInBounds t v) r.tmps) r.assign r.body) w:=by
 have hy:=run_yield (P:=C.P) (args:=aa.map a.eval) hL (by simpa using hs);simp[execOp,eF,resolve,hx,Deferred.ofValue,invoke,hy]
def awh {g:Operand}{f:Nat}{vs:List Value}{L:Nat}(hf:∃fn,C.P.funcs[f]?=some fn/\fn.body.isSome=true/\(fn.name== "runtime.NumGoroutine")=false)(hg:a.eval g=.func (.func f) #[] vs.toArray):
 (resolve a.eval (rangeCall g L) 0).run C.P w=.ok {target:=.fn (.func f) vs.toArray,args:=#[.func (.yield L) #[] #[]]} w/\
 (invoke (.fn (.func f) vs.toArray) #[.func (.yield L) #[] #[]]).run C.P w=.ok (.enter f (#[.func (.yield L) #[] #[]]++vs.toArray)) w:=by
 obtain⟨fn,h1,h2,h3⟩:=hf;obtain⟨bd,gS⟩:=aaw.1 h2;have h4:¬fn.name= "runtime.NumGoroutine" :=by simpa using h3
 constructor
 .simp only[resolve,hg];simp[go_sem]
 .simp[invoke,callFunc,h1,gS,h4]
def FrOK.enter {hv:Nat->Value}{S:St}{O:Env}(h:Inv C S O V own hv w0 σ0 A a w){t:D}{fx cx:Nat->Prop}(hf:FrOK V own w0.heap.size σ0 w t fx cx)(r:Loop):FrOK (V.mark w.heap.size) own w0.heap.size σ0 ((w.alloc (.deferred (some []))).alloc (.loop r)) t fx cx:=by
 have hb:=abQ w (.deferred (some [])) (.loop r);have af:=σ0.lt _ _ _ _ hf.F;have cd:=σ0.sub _ _ _ _ hf.F;have yF:∀k x,(V.mark w.heap.size).m k=some x->V.m k=some x\/k=w.heap.size:=by
  intro k x e;simp only[Im.mark] at e;split at e
  .rename_i e2;exact .inr e2
  .exact .inl e
 refine⟨σ0.keep _ _ _ _ _ hf.F (hb.mono (kg _)) λk hk=>hb.block k (af k hk),hf.own,hf.c,λk x e hc=>?_,λk e hB hk=>?_⟩
 .rcases yF k x e with e|e
  .exact hf.m k x e hc
  .have:=af k (cd k hc);omega
 .rcases yF k _ e with e|e
  .exact hf.d k e hB hk
  .have:=af k hk;omega
structure RSt (C:Ctx) (w0:World) (σR:Base) (ids:List Nat) (ρ1:Env) (lo:List Nat) (aM:Act) (L:Nat) (W1:World) (σ1:Im) (rec:LoopState->Option Code->Loop) (xs:List D) (P:Nat->List D->Snap->LoopState->Option Code->Prop) (t:D) (fx cx:Nat->Prop) (w:World):Prop where
 lt:∀k,fx k->k<w.heap.size
 sub:∀k,cx k->fx k
 old:∀k,k<W1.heap.size->fx k
 ex:∃(i:Nat) (vo:List D) (Sx:Snap) (st:LoopState) (pe:Option Code) (V:Im) (own:Nat->Option Nat) (hv:Nat->Value),t=.list (xs.take i)/\P i vo Sx st pe/\Inv C (Sx.st ids) (ρ1.put [] [] lo vo) V own hv w0 σR (λ_=>False) aM w/\
  σ1.le V/\Free L V own/\w.heap[L]?=some (.loop (rec st pe))/\(∀k j,own k=some j->fx k)/\(∀k o x,V.c k o=some x->fx k)/\(∀k x,V.m k=some x->fx k)/\∀k,cx k↔((∃j,own k=some j)\/k=L)
def RSt.keep {σR:Base}{ρ1:Env}{lo:List Nat}{aM:Act}{L:Nat}{W1:World}{σ1:Im}{rec:LoopState->Option Code->Loop}{xs:List D}{P:Nat->List D->Snap->LoopState->Option Code->Prop}{t:D}{fx cx:Nat->Prop}{w w':World}
 (h0:w0.heap.size<=W1.heap.size) (hL:L<W1.heap.size) (hR:∀t f c w,σR.F t f c w->∀k,f k->k<W1.heap.size) (h:RSt C w0 σR ids ρ1 lo aM L W1 σ1 rec xs P t fx cx w) (hb:Below 0 w w') (hs:∀k,fx k->w'.heap[k]?=w.heap[k]?):
 RSt C w0 σR ids ρ1 lo aM L W1 σ1 rec xs P t fx cx w':=by
 obtain⟨i,vo,Sx,st,pe,V,own,hv,e1,e2,e3,e4,e5,e6,e7,e8,e9,e10⟩:=h.ex;refine⟨λk hk=>ln (h.lt k hk) hb.size,h.sub,h.old,i,vo,Sx,st,pe,V,own,hv,e1,e2,?_,e4,e5,(hs L (h.old L hL)).trans e6,e7,e8,e9,e10⟩;exact e3.keep (X:=fx) hb hs (λk hk=>h.old k (by omega)) e7 e8 e9 (λt f c hf k hk=>h.old k (hR _ _ _ _ hf.F k hk))
def Im.noM_m {V:Im}{k:Nat}{v:List (Value×Value)}(h:V.noM.m k=some v):V.m k=some v/\v≠cC:=by
 simp only[Im.noM] at h;split at h
 .cases h
 .rename_i au;exact⟨h,λe=>au (by rw[h,e])⟩
structure SegL (L:Nat) (V:Im) (own:Nat->Option Nat) (w:World) (V':Im) (own':Nat->Option Nat) (w':World):Prop where
 le:V.le V'
 below:Below 0 w w'
 same:∀k,k<w.heap.size->own k=none->k≠L->w'.heap[k]?=w.heap[k]?
 ow:∀k j,own' k=some j->(∃i,own k=some i)\/w.heap.size<=k
 imm:∀k,((∃o x,V'.c k o=some x)\/∃x,V'.m k=some x)->(∃o x,V.c k o=some x)\/(∃x,V.m k=some x)\/(∃i,own k=some i)\/w.heap.size<=k
def ahA (w:World)(L:Nat)(o:Obj):Below 0 w (w.putObj L o):=⟨rfl,rfl,rfl,by simp,λk hk=>by omega⟩
def Seg.round {L:Nat}{V' V'':Im}{own' ahi:Nat->Option Nat}{w' lg:World}{o o':Obj}(h:Seg V own w V' own' w')(k:Seg V' own' (w'.putObj L o) V'' ahi lg):SegL L V own w V'' ahi (lg.putObj L o'):=by
 have aI:=h.below.size;have vY:=k.below.size;simp only[World.putObj_size] at vY;refine⟨h.le.trans k.le,h.below.trans ((ahA _ _ _).trans (k.below.trans (ahA _ _ _))),λq hq ho hL=>?_,λq j e=>?_,λq e=>?_⟩
 .have h1:own' q=none:=by
   cases e:own' q with
   |none=>rfl
   |some j=>
    rcases h.ow q j e with⟨i,e⟩|e
    .rw[ho] at e;cases e
    .omega
  rw[World.putObj_heap_other hL,k.same q (by simp;omega) h1,World.putObj_heap_other hL,h.same q hq ho]
 .rcases k.ow q j e with⟨i,e⟩|e
  .exact h.ow q i e
  .simp only[World.putObj_size] at e;exact .inr (by omega)
 .rcases k.imm q e with e|e|⟨i,e⟩|e
  .exact h.imm q (.inl e)
  .exact h.imm q (.inr e)
  .rcases h.ow q i e with e|e
   .exact .inr (.inr (.inl e))
   .exact .inr (.inr (.inr e))
  .simp only[World.putObj_size] at e;exact .inr (.inr (.inr (by omega)))
def Env.put_self (O:Env)(lo:List Nat):O.put [] [] lo (lo.map O.o)=O:=by
 have h2:∀u,putL O.o lo (lo.map O.o) u=O.o u:=λu=>by rw[u7];split<;>rfl
 show Env.mk O.r (putL O.o lo (lo.map O.o))=O;rw[funext h2]
def awi {N:Nat}(ej:gN C Z){g:Operand}{ps:Array Tmp}{ca cb:Code}(bG:xJ C Z fn s n ids R N ca)(eI:xJ C Z fn s n ids R N cb):xJ C Z fn s n ids R N (.rangeFunc g ps ca cb):=by
 intro rm S r hr rd w0 σ0 wr O x a w gx hC hY gA hn hg he;simp only[comp] at hr;split at hr
 case h_2=>cases hr;exact absurd he (nw _ _ _ _)
 rename_i aa rr e me hu;split at hr
 case h_2=>cases hr;exact absurd he (nw _ _ _ _)
 rename_i ys oE;split at hr
 case h_2=>cases hr;exact absurd he (nw _ _ _ _)
 rename_i q hq;rw[qD] at hr;split at hr
 case isFalse=>cases hr;exact absurd he (nw _ _ _ _)
 rename_i yq;cases hr;simp only[ao] at yq;obtain⟨⟨⟨hl,bn⟩,af⟩,yL⟩:=yq;have hl:=ay hl;have yL:=jH yL;obtain⟨hrd,kr⟩:=gx rfl;subst hrd;obtain⟨hs,BX,_⟩:=Gm (C:=C) (w0:=w0) (σ0:=σ0) (ids:=ids) 8 hq;simp only[az] at hs;obtain⟨ra,Su,hs⟩:=hs;split at hs
 case h_2=>cases hs
 rename_i S1 hao hax;simp only[aA] at hs;obtain⟨rb,hrb,gX⟩:=hs;have hma:=vD ca Su;have hmb:=vD cb hrb;obtain⟨q1,q2⟩:=q;simp only at Su gX yL BX he ⊢;generalize pP:ae4 ids (q1::q2.ex.map (·.2)) q2.mo=lo at he;generalize vT:((qa cR q2.ex none).bind λM=>zH C fn s (M.st ids))=rt at he;have FX:∃f caps d,e.ev O=.clo f caps/\Z f caps=some d/\jq (q2.pc.ev Z N) (O.setR n d) ps.toList lo rt d.l (lo.map O.o)=some x:=by
  simp only[PC.ev,PI.runs,PI.run,holds,List.all_nil,zyy] at he;cases bK:e.ev O with
  |clo f caps=>
   rw[bK] at he;simp only[PE.evs,xC] at he;cases hΦ:Z f caps with
   |none=>rw[hΦ] at he;simp at he
   |some d=>
    rw[hΦ] at he;simp only[kM,pk,PE.ev,Env.setR,aN] at he;exact⟨f,caps,d,rfl,hΦ,he⟩
  |_=>rw[bK] at he;simp at he
 obtain⟨f,caps,d,bK,hΦ,he⟩:=FX;obtain⟨V,own,hv,i⟩:=hg;have hx:=cw (gs:=[]) i hC rfl hu;rw[bK] at hx;generalize RO:a.eval g=gv at hx;generalize bq:Ty.fn aa rr=ty at hx;cases hx with
 |fn f cs vs ds eX h1 h2 aK=>
 cases bq;obtain⟨hfn,aqx⟩:=ej f cs ys eX oE;obtain⟨xs,rfl,aGq,RP⟩:=aqx caps d hΦ;simp only[D.l_list] at he;obtain⟨m,nB,hm,eH,LB,lF⟩:=abL he;have iq0:=aew 8 hq i
 have iq:Inv C (q1.st ids) (O.setR n (.list xs)) V own hv w0 σ0 (λ_=>False) a w:=by
  refine iq0.env (Snap.noOpt _ _) (λt ht=>?_) (λ_ _=>rfl);have af:t<q1.rs.length:=by
   refine aat λhle=>?_;simp only[Snap.st,aF,j9 hle,Option.getD_none,cK,isNone] at ht;cases ht
  simp[Env.setR,bA _ _ (show t≠n by omega)]
 obtain⟨ρ1,hρ1⟩:∃ρ1,O.setR n (.list xs)=ρ1:=⟨_,rfl⟩
 rw[hρ1] at he iq LB lF;have kz:O.o=ρ1.o:=by rw[<-hρ1];rfl
 rw[kz] at eH;refine wpIn_rangeFunc ?_;intro Q7 aFQ;obtain⟨L,acy⟩:∃L,w.heap.size+1=L:=⟨_,rfl⟩
 obtain⟨rec,jw⟩:∃rec:LoopState->Option Code->Loop,rec=λst pe=>{state:=st,pending:=pe,fn:=Q7,tmps:=a.tmps,params:=ps,assign:=ca,body:=cb,defers:=w.heap.size}:=⟨_,rfl⟩
 have i1:=iq.enter (rec .ready none);obtain⟨t,fx0,cx0,ac1,SC⟩:=iq.frame;have aqd:=σ0.lt _ _ _ _ ac1.F;have RL:=FrOK.enter iq ac1 (rec .ready none);have aGo:=iq.below.size;have BL:Free L (V.mark w.heap.size) own:=by
  refine⟨?_,λo=>?_,?_⟩
  .cases e:own L with
   |none=>rfl
   |some j=>have:=(iq.owns L j e).2.1;omega
  .cases e:V.c L o with
   |none=>exact e
   |some x=>have:=iq.lt e;omega
  .simp only[Im.mark,show L≠w.heap.size by omega,if_false];cases e:V.m L with
   |none=>rfl
   |some x=>have:=iq.ltm e;omega
 have l5:V.le (V.mark w.heap.size):=by
  refine⟨λ_ _ _ e=>e,λk x e=>?_⟩;have:k≠w.heap.size:=by have:=iq.ltm e;omega
  simp[Im.mark,this,e]
 have hL1:((w.alloc (.deferred (some []))).alloc (.loop (rec .ready none))).heap[L]?=some (.loop (rec .ready none)):=by
  have:=World.alloc_heap_new (w.alloc (.deferred (some []))) (.loop (rec .ready none));rw[World.size_alloc,acy] at this;exact this
 obtain⟨W1,Rp⟩:∃W1,(w.alloc (.deferred (some []))).alloc (.loop (rec .ready none))=W1:=⟨_,rfl⟩
 have aFJ:W1.heap.size=w.heap.size+2:=by rw[<-Rp];simp
 rw[Rp] at i1 RL hL1;have RH:(Instr.enterLoop Q7 a.tmps ps ca cb none).run C.P w=.ok (L,[{target:=.collected w.heap.size,args:=#[]}]) W1:=by
  rw[<-Rp,jw,<-acy];exact run_enterLoop_outer _ _ _ _ _
 obtain⟨σ1,hσ1⟩:∃σ1,V.mark w.heap.size=σ1:=⟨_,rfl⟩
 rw[hσ1] at i1 RL BL l5;obtain⟨aM,Rq⟩:∃aM:Act,{a with defers:={target:=.collected w.heap.size,args:=#[]}::a.defers}=aM:=⟨_,rfl⟩
 have Fe:aM.tmps=a.tmps:=by rw[<-Rq]
 rw[Rq] at i1;have iR:=i1.toRnd (t:=t) (X:=λk=>k=L) SC;obtain⟨σR,hσR⟩:∃σR,σ0.rnd σ1 own W1 t (λk=>k=L)=σR:=⟨_,rfl⟩
 have vK:∀t' f c w',σR.F t' f c w'->(∀k,f k->k<W1.heap.size/\k≠L)/\∀k,c k->f k/\(∀o,σ1.c k o=none)/\σ1.m k=none:=by
  rw[<-hσR];rintro t' f c w' ⟨_,h2,h3,_⟩;exact⟨λk hk=>⟨((h2 k).1 hk).1,((h2 k).1 hk).2.2.2⟩,λk hk=>(h3 k).1 hk⟩
 have hRC:CtxOK C σR:=by rw[<-hσR];exact hC.mono i1.le
 rw[hσR] at iR
 obtain⟨P,hP⟩:∃P:Nat->List D->Snap->LoopState->Option Code->Prop,P=λi vo Sx st pe=>(i<=m/\vo=nB i/\Sx=q1/\st=.ready/\pe=none)\/
  (i=m+1/\m<xs.length/\st=.done/\∃y id O',xs[m]?=some y/\q2.pc.ev Z N (ρ1.put ps.toList (partsOf ps.toList y) lo (nB m))=some (.exit id O')/\vo=lo.map O'.o/\(id,Sx)∈q2.ex/\((id≠cR/\pe=some (.exit id))\/(id=cR/\pe=some .ret))):=⟨_,rfl⟩
 obtain⟨c1,c2⟩:=awh (C:=C) (w:=W1) (L:=L) hfn RO;refine⟨L,[{target:=.collected w.heap.size,args:=#[]}],W1,_,W1,f,_,W1,RH,c1,λ_ _=>trivial,c2,(λe=>by cases e),?_⟩
 refine aa7 ((RP σ1 W1 (.func (.yield L) #[] #[]) vs (RSt C w0 σR ids ρ1 lo aM L W1 σ1 rec xs P) (λk=>k<W1.heap.size) (λk=>(∃j,own k=some j)\/k=L) m i1.ok (hC.mono i1.le) ⟨h1,h2,λj t e=>(aK j t e).mono l5⟩ hm
  (λt f c w h=>h.lt) (λt f c w h=>h.sub) (λt f c w w' h hb hs=>h.keep (by omega) (by omega) (λt f c w hF k hk=>((vK t f c w hF).1 k hk).1) hb hs) ?_ ?_ ?_ ?_).mono ?_)
 .refine⟨λk hk=>hk,λk hk=>?_,λk hk=>hk,0,nB 0,q1,.ready,none,σ1,own,hv,by simp,by rw[hP];exact .inl ⟨kg _,rfl,rfl,rfl,rfl⟩,?_,.refl σ1,BL,hL1,λk j e=>(iR.owns k j e).2.1,λk o x e=>iR.lt e,λk x e=>iR.ltm e,λk=>.rfl⟩
  .rcases hk with⟨j,e⟩|e
   .exact(iR.owns k j e).2.1
   .show k<W1.heap.size;omega
  .rw[eH,Env.put_self];exact iR
 .rintro k o x e (⟨j,hj⟩|rfl)
  .have:=(iR.owns k j hj).2.2.1 o;rw[e] at this;cases this
  .rw[BL.c] at e;cases e
 .rintro k x e (⟨j,hj⟩|rfl)
  .have:=(iR.owns k j hj).2.2.2;rw[e] at this;cases this
  .rw[BL.m] at e;cases e
 .intro i fx cx w1 σx args ds' hi dM hF hσx jt ju oq dp cS rd' o a' x' aa ts K Q eF cu acI hK;have aFV:i<xs.length:=(eM.1 dM).1;obtain⟨i',vo,Sx,st,pe,σa,zk,hva,e1,e2,iA,Lx,Fb,K6,Sc,hcA,FH,BT⟩:=hF.ex;have hii:i'=i:=by
   have h9:=congrArg List.length (congrArg D.l e1);simp only[D.l_list,dQ] at h9;omega
  subst hii;rw[hP] at e2;rcases e2 with⟨_,rfl,Fc,rfl,rfl⟩|⟨e2,_⟩
  case inr=>omega
  rw[Fc] at iA;have acz:L<w1.heap.size:=hF.lt L (hF.old L (by omega));have Lh:cx L:=(BT L).2 (.inr rfl)
  have aqY:∀k o v,σx.c k o=some v->zk k=none:=λk o v e=>by
   cases e2:zk k with
   |none=>rfl
   |some j=>exact absurd ((BT k).2 (.inl ⟨j,e2⟩)) (ju k o v e)
  have FL:∀k v,σx.m k=some v->zk k=none:=λk v e=>by
   cases e2:zk k with
   |none=>rfl
   |some j=>exact absurd ((BT k).2 (.inl ⟨j,e2⟩)) (oq k v e)
  have hτok:σx.noM.ok w1:=⟨hσx.c,λk v e=>hσx.m k v (Im.noM_m e).1,hσx.f⟩
  have iB:=iA.joinIm (τ:=σx.noM) hτok (λk e=>(Im.noM_m e).2 rfl) aqY (λk v e=>FL k v (Im.noM_m e).1)
   (λk o v e=>(dp k o v e).imp (λe=>Lx.c k o v e) λe=>by omega) (λk v e=>(cS k v (Im.noM_m e).1).imp (λe=>Lx.m k v e) λe=>by omega)
   (λt' f c hf=>⟨λk o v e hc=>by
        obtain⟨g1,g2,g3⟩:=(vK _ _ _ _ hf.F).2 k hc;rcases dp k o v e with e|e
        .rw[g2 o] at e;cases e
        .have:=((vK _ _ _ _ hf.F).1 k g1).1;omega,λk v e hc=>by
        obtain⟨g1,g2,g3⟩:=(vK _ _ _ _ hf.F).2 k hc;rcases cS k v (Im.noM_m e).1 with e|e
        .rw[g3] at e;cases e
        .have:=((vK _ _ _ _ hf.F).1 k g1).1;omega⟩)
  have hFB:Free L (σa.plus σx.noM) zk:=by
   refine⟨Fb.own,λo=>?_,?_⟩
   .cases e:(σa.plus σx.noM).c L o with
    |none=>rfl
    |some v=>
     rcases Im.plus_c e with e|e
     .rw[Fb.c] at e;cases e
     .exact absurd Lh (ju L o v e)
   .cases e:(σa.plus σx.noM).m L with
    |none=>rfl
    |some v=>
     rcases Im.plus_m e with e|e
     .rw[Fb.m] at e;cases e
     .exact absurd Lh (oq L v (Im.noM_m e).1)
  have sZ:ps.toList.length=ys.length:=by rw[zW];exact hl.symm
  have apI:qB C (σa.plus σx.noM) ys args ds':=⟨jt.1,jt.2.1,λj t e=>((jt.2.2 j t e).noM).mono (Im.plus_le2 iA.ok hτok)⟩
  have iC:=iB.startR (O':=ρ1) sZ bn (λp hp=>by
   have:=cP.1 af p hp;rw[Fe,hn];simpa [pj] using this) apI rfl
  have Sp:∃xi,q2.pc.ev Z N (ρ1.put ps.toList (partsOf ps.toList (.tup ds')) lo (nB i'))=some xi/\((i'<m/\∃O',xi=.next O'/\lo.map O'.o=nB (i'+1))\/(i'=m/\m<xs.length/\∃id O',xi=.exit id O')):=by
   by_cases sU:i'<m
   .obtain⟨y,O',g1,g2,g3⟩:=LB i' sU;rw[dM] at g1;cases g1;exact⟨_,g2,.inl ⟨sU,O',rfl,g3⟩⟩
   .obtain rfl:i'=m:=by omega
    rcases lF with⟨g1,_⟩|⟨g1,y,id,O',g2,g3,_⟩
    .omega
    .rw[dM] at g2;cases g2;exact⟨_,g3,.inr ⟨rfl,g1,id,O',rfl⟩⟩
  obtain⟨xi,uR,SU⟩:=Sp;have ab:q2.pc=.seq ra.pc rb.pc:=by rw[<-gX];rfl
  rw[ab] at uR;have aI:(nr ps.toList args aM.tmps).size=n:=by rw[aja,Fe,hn]
  refine⟨λ_ _=>trivial,?_⟩;rw[Oper.semAt_eq _ _ _ (λc e=>by rw[eF] at e;cases e)];have apJ:aa.size=ps.size:=by
   have:=jt.1;rw[<-acI,ei,zW] at this;omega
  have ak:=aAX (C:=C) eF cu K6 (by rw[jw];exact apJ);have arn:(rec .ready none).fn=Q7/\(rec .ready none).tmps=a.tmps/\(rec .ready none).params=ps/\(rec .ready none).assign=ca/\(rec .ready none).body=cb:=by rw[jw];exact⟨rfl,rfl,rfl,rfl,rfl⟩
  obtain⟨r1,r2,r3,r4,r5⟩:=arn;rw[r1,r2,r3,r4,r5] at ak
  have tg:(ps.zip (aa.map a'.eval)).foldl (λtmps (t,v)=>tmps.setIfInBounds t v) a.tmps=nr ps.toList args aM.tmps:=by
   rw[Fe,<-acI,<-vk];exact axa ps (aa.map a'.eval) a.tmps
  rw[tg] at ak;rw[ak];refine⟨(λe=>by cases e),?_⟩;refine roundIn_of_wpIn (F:=FR rd') trivial ?_;show ca.wpIn (FR (some L)) 0 C.P _ _ _;cases mU:ra.pc.ev Z N (ρ1.put ps.toList (partsOf ps.toList (.tup ds')) lo (nB i')) with
  |none=>simp only[PC.ev,mU] at uR;cases uR
  |some xa=>
  refine wpIn_mono (ai4 bG Su me hRC iC (wr:=λt=>t∈cD ca) (λ_ h=>h) aI mU L) λe2 a1 ZK ary=>?_;obtain⟨ρ2,S2,σ2,jB,iy,iD,th,ix,kR⟩:=ary;cases e2 with
  |normal=>
   obtain⟨rfl,BN⟩:=kR;rw[hao] at BN;cases BN;simp only[PC.ev,mU] at uR;have hL2:ZK.heap[L]?=some (.loop (rec .ready none)):=(th.same L acz hFB.own).trans K6;have Rm:=hFB.seg acz th;have Rn:L<ZK.heap.size:=(eB.1 hL2).1;have K5:w0.heap.size<=L:=by omega
   refine⟨_,run_beginRound hL2 (by rw[jw]),?_⟩;have iE:=iD.putL K5 Rm (λt' f c hf Ft=>((vK _ _ _ _ hf.F).1 L Ft).2 rfl) (.loop {rec .ready none with state:=.busy});have hL3:(ZK.putObj L (.loop {rec .ready none with state:=.busy})).heap[L]?=some (.loop {rec .ready none with state:=.busy}):=World.putObj_heap_same Rn;show cb.wpIn (FR (some L)) 0 C.P _ _ _;refine wpIn_mono (ai4 eI hrb me hRC iE (wr:=λt=>t∈cD cb) (λ_ h=>h) (ix.size.trans aI) uR L) λe3 a3 w3 arz=>?_;obtain⟨ρ3,S3,σ3,zj,F7,iF,LN,arw,pS⟩:=arz;have hL4:w3.heap[L]?=some (.loop {rec .ready none with state:=.busy}):=(LN.same L (by simpa using Rn) Rm.own).trans hL3;have hF3:=Rm.seg (by simpa using Rn) LN;have apu:L<w3.heap.size:=(eB.1 hL4).1;obtain⟨mk,vR⟩:∃mk,Nat.lor (y7 (ps.toList++cD ca++cD cb)) (Nat.lor ra.mr rb.mr)=mk:=⟨_,rfl⟩
   have aqP:∀t,aR mk t=false->t∉ps.toList/\t∉cD ca/\t∉cD cb/\aR ra.mr t=false/\aR rb.mr t=false:=by
        intro t ht;rw[<-vR,gP,gP,Z6,Z6] at ht;obtain⟨t1,t2,t3⟩:=ht;have:t∉ps.toList++cD ca++cD cb:=λhm=>by rw[aaX hm] at t1;cases t1
        simp only[dR,not_or] at this;exact⟨this.1.1,this.1.2,this.2,t2,t3⟩
   have Sw:∀t,aR mk t=false->aM.tmps.getD t undef=a3.tmps.getD t undef/\(ρ1.put [] [] lo (lo.map ρ3.o)).r t=ρ3.r t:=by
        intro t ht;obtain⟨t1,t2,t3,t4,t5⟩:=aqP t ht;refine⟨?_,?_⟩
        .rw[arw.get t t3,ix.get t t2];exact(N4 _ _ _ _ t1).symm
        .have Rv:∀O',xi=.next O'\/(∃id,xi=.exit id O')->O'.r t=ρ2.r t:=λO' h=>by
          have yt:xi.env?=some O':=by rcases h with h|⟨id,h⟩<;>rw[h]<;>rfl
          exact(PC.ev_but rb.pc _ _ O' uR yt).r t λhm=>by rw[hmb.1 t hm] at t5;cases t5
         have de:ρ2.r t=putL ρ1.r ps.toList (partsOf ps.toList (.tup ds')) t:=(PC.ev_but ra.pc _ _ ρ2 mU rfl).r t λhm=>by rw[hma.1 t hm] at t4;cases t4
         rw[CL _ _ _ _ t1] at de;show ρ1.r t=ρ3.r t;rw[Rv ρ3 (by
          cases e3 with
          |normal=>exact .inl pS.1
          |exit id=>exact .inr ⟨id,pS.1⟩
          |ret=>exact .inr ⟨_,pS.1⟩
          |_=>exact pS.elim),de]
   have R0:q2.mo=j3 ra.mo rb.mo:=by rw[<-gX];rfl
   have Sf:∀j,j∉q2.mo->ρ3.o j=ρ1.o j:=by
        intro j hj;rw[R0,rN,not_or] at hj;have yt:xi.env?=some ρ3:=by
         cases e3 with
         |normal=>rw[pS.1];rfl
         |exit id=>rw[pS.1];rfl
         |ret=>rw[pS.1];rfl
         |_=>exact pS.elim
        rw[(PC.ev_but rb.pc _ _ ρ3 uR yt).o j λhm=>hj.2 (hmb.2 j hm),(PC.ev_but ra.pc _ _ ρ2 mU rfl).o j λhm=>hj.1 (hma.2 j hm)]
        exact CL _ _ _ _ λhm=>by
         rw[<-pP] at hm;have:=(eT.1 hm).1;rw[R0,rN] at this;exact this.elim hj.1 hj.2
   have Se:∀(S:Snap),S∈(q1::q2.ex.map (·.2))->∀j,p5 ((S.st ids).o j)=false->(ρ1.put [] [] lo (lo.map ρ3.o)).o j=ρ3.o j:=by
        intro S hS j hj;show putL ρ1.o lo (lo.map ρ3.o) j=ρ3.o j;rw[u7];split
        .rfl
        .rename_i gU;refine(Sf j λvO=>gU ?_).symm;rw[<-pP];exact eT.2 ⟨vO,xx.2 ⟨S,hS,by simpa [Snap.st] using hj⟩⟩
   have fin:∀(jump:Option Code) (Sx:Snap),Inv C (Sx.st ids) (ρ1.put [] [] lo (lo.map ρ3.o)) σ3 zj F7 w0 σR (λ_=>False) aM w3->P (i'+1) (lo.map ρ3.o) Sx (if jump.isNone then .ready else .done) jump->jump.isNone=decide (i'<m)->
        ∃v w',(Instr.endRound L jump).run C.P w3=.ok v w'/\K (a'.put o.dst v) w':=by
        intro jump Sx iG hPn vO;refine⟨_,_,run_endRound jump hL4,?_⟩;have arl:({{rec .ready none with state:=.busy} with state:=if jump.isNone then .ready else .done,pending:=jump}:Loop)=rec (if jump.isNone then .ready else .done) jump:=by rw[jw]
        rw[arl];have aK:=th.round (L:=L) (o':=.loop (rec (if jump.isNone then .ready else .done) jump)) LN;have iH:=iG.putL K5 hF3 (λt' f c hf Ft=>((vK _ _ _ _ hf.F).1 L Ft).2 rfl) (.loop (rec (if jump.isNone then .ready else .done) jump));obtain⟨w4,SP⟩:∃w4,w3.putObj L (.loop (rec (if jump.isNone then .ready else .done) jump))=w4:=⟨_,rfl⟩
        have hL5:w4.heap[L]?=some (.loop (rec (if jump.isNone then .ready else .done) jump)):=by rw[<-SP];exact World.putObj_heap_same apu
        have aGt:w4.heap.size=w3.heap.size:=by rw[<-SP];simp
        rw[SP] at aK iH ⊢;have aFI:W1.heap.size<=w1.heap.size:=by
         have:=hF.lt (W1.heap.size-1) (hF.old _ (by omega));omega
        have aGp:=aK.below.size
        refine hK _ _ ⟨by rw[vO],aK.below,λk hk hc=>aK.same k hk (by
         cases e:zk k with
         |none=>rfl
         |some j=>exact absurd ((BT k).2 (.inl ⟨j,e⟩)) hc) (λe=>hc (by rw[e];exact Lh)),(λk=>k<w4.heap.size/\(k<W1.heap.size\/(∃j,zj k=some j)\/(∃o x,σ3.c k o=some x)\/∃x,σ3.m k=some x)),(λk=>(∃j,zj k=some j)\/k=L),?_,?_,?_⟩
        .refine⟨λk hk=>hk.1,λk hk=>?_,λk hk=>⟨by omega,.inl hk⟩,i'+1,lo.map ρ3.o,Sx,_,jump,σ3,zj,F7,rfl,hPn,iH,Lx.trans ((Im.plus_le1 _ _).trans aK.le),hF3,hL5,λk j e=>⟨(iH.owns k j e).2.1,.inr (.inl ⟨j,e⟩)⟩,λk o x e=>⟨iH.lt e,.inr (.inr (.inl ⟨o,x,e⟩))⟩,λk x e=>⟨iH.ltm e,.inr (.inr (.inr ⟨x,e⟩))⟩,λk=>.rfl⟩;rcases hk with⟨j,e⟩|e
         .exact⟨(iH.owns k j e).2.1,.inr (.inl ⟨j,e⟩)⟩
         .exact⟨by omega,.inl (by omega)⟩
        .rintro k ⟨_,hk⟩ bC
         have FA:((∃o x,σ3.c k o=some x)\/∃x,σ3.m k=some x)->fx k\/(∃o x,σx.c k o=some x)\/(∃x,σx.m k=some x/\x≠cC):=λh=>by
          rcases aK.imm k h with⟨o,x,e⟩|⟨x,e⟩|⟨j,e⟩|e
          .rcases Im.plus_c e with e|e
           .exact .inl (hcA k o x e)
           .exact .inr (.inl ⟨o,x,e⟩)
          .rcases Im.plus_m e with e|e
           .exact .inl (FH k x e)
           .exact .inr (.inr ⟨x,(Im.noM_m e).1,(Im.noM_m e).2⟩)
          .exact .inl (Sc k j e)
          .omega
         rcases hk with hk|⟨j,e⟩|e|e
         .exact .inl (hF.old k hk)
         .rcases aK.ow k j e with⟨j',e⟩|e
          .exact .inl (Sc k j' e)
          .omega
         .exact FA (.inl e)
         .exact FA (.inr e)
        .rintro k (⟨j,e⟩|e) bC
         .rcases aK.ow k j e with⟨j',e⟩|e
          .exact(BT k).2 (.inl ⟨j',e⟩)
          .omega
         .rw[e];exact Lh
   have pK:lh σ3 w0.heap.size aM.defers:=iA.defers.mono ((Im.plus_le1 _ _).trans (th.le.trans LN.le));have Sq:q2.out=rb.out.map (Snap.mask mk)/\q2.ex=rb.ex.map (λx=>(x.1,x.2.mask mk)):=by rw[<-gX,<-vR];exact⟨rfl,rfl⟩
   cases e3 with
   |normal=>
    obtain⟨e4,e5⟩:=pS;have hT:q2.out=some (S3.mask mk):=by rw[Sq.1,e5];rfl
    have ac2:=BX _ hT
    have iG:Inv C (q1.st ids) ρ3 σ3 zj F7 w0 σR (λ_=>False) a3 w3:=by
        have:=Snap.meet_ok2 (x:=q1) (iF.maskR mk)
        rwa [ac2] at this
    have iH:=iG.restore (O':=ρ1.put [] [] lo (lo.map ρ3.o)) (a':=aM) (Snap.noOpt _ _) pK (λt ht=>Sw t (by
        cases e:aR mk t with
        |false=>rfl
        |true=>
         have h9:=auk (x:=q1) (S:=S3) (ids:=ids) e;rw[ac2] at h9;rw[h9] at ht;cases ht)) (λj hj=>Se q1 (fR ..) j hj)
    rcases SU with⟨sU,O',e6,e7⟩|⟨_,_,id,O',e6⟩
    .rw[e4] at e6;cases e6;exact fin none q1 iH (by rw[hP];exact .inl ⟨by omega,e7,rfl,rfl,rfl⟩) (by simp[sU])
    .rw[e4] at e6;cases e6
   |exit id=>
    obtain⟨e4,e5,e6⟩:=pS;have cW:(id,S3.mask mk)∈q2.ex:=by rw[Sq.2];exact bZ.2 ⟨_,e6,rfl⟩
    have iH:=(iF.maskR mk).restore (O':=ρ1.put [] [] lo (lo.map ρ3.o)) (a':=aM) (Snap.noOpt _ _) pK (λt ht=>Sw t (by
        cases e:aR mk t with
        |false=>rfl
        |true=>rw[Gw,if_pos e] at ht;cases ht)) (λj hj=>Se (S3.mask mk) (fw _ (bZ.2 ⟨_,cW,rfl⟩)) j hj)
    rcases SU with⟨sU,O',e7,_⟩|⟨sU,rz,bP,O',e7⟩
    .rw[e4] at e7;cases e7
    .subst sU;refine fin (some (.exit id)) (S3.mask mk) iH ?_ (by simp);rw[hP];refine .inr ⟨rfl,rz,rfl,_,id,ρ3,dM,?_,rfl,cW,.inl ⟨e5,rfl⟩⟩;rw[ab];simp only[PC.ev,mU];rw[uR,e4]
   |ret=>
    obtain⟨e4,e6⟩:=pS;have cW:(cR,S3.mask mk)∈q2.ex:=by rw[Sq.2];exact bZ.2 ⟨_,e6,rfl⟩
    have iH:=(iF.maskR mk).restore (O':=ρ1.put [] [] lo (lo.map ρ3.o)) (a':=aM) (Snap.noOpt _ _) pK (λt ht=>Sw t (by
        cases e:aR mk t with
        |false=>rfl
        |true=>rw[Gw,if_pos e] at ht;cases ht)) (λj hj=>Se (S3.mask mk) (fw _ (bZ.2 ⟨_,cW,rfl⟩)) j hj)
    rcases SU with⟨sU,O',e7,_⟩|⟨sU,rz,bP,O',e7⟩
    .rw[e4] at e7;cases e7
    .subst sU;refine fin (some .ret) (S3.mask mk) iH ?_ (by simp);rw[hP];refine .inr ⟨rfl,rz,rfl,_,cR,ρ3,dM,?_,rfl,cW,.inr ⟨rfl,rfl⟩⟩;rw[ab];simp only[PC.ev,mU];rw[uR,e4]
   |_=>exact pS.elim
  |exit id=>obtain⟨_,_,e6⟩:=kR;rw[hax] at e6;cases e6
  |ret=>obtain⟨_,e6⟩:=kR;rw[hax] at e6;cases e6
  |_=>exact kR.elim
 .rintro e' w' ⟨⟨v,rfl⟩,fx,cx,hF⟩;rw[show({tmps:=a.tmps,defers:=[{target:=Target.collected w.heap.size,args:=#[]}]++a.defers}:Act)=aM from Rq];obtain⟨i',vo,Sx,st,pe,σa,zk,hva,e1,e2,iA,Lx,Fb,K6,Sc,hcA,FH,BT⟩:=hF.ex;have h9:=congrArg List.length (congrArg D.l e1);simp only[D.l_list,dQ] at h9;have cJ:(rec st pe).state≠.busy:=by
   rw[hP] at e2;rw[jw];rcases e2 with⟨_,_,_,e3,_⟩|⟨_,_,e3,_⟩<;>(rw[e3];intro e;cases e)
  have oA:(rec st pe).pending=pe:=by rw[jw]
  have RI:(Instr.endLoop L).run C.P w'=.ok pe (w'.putObj L (.loop {rec st pe with state:=.exhausted})):=(run_endLoop (P:=C.P) K6 cJ).trans (congrArg (λz=>Result.ok z _) oA);have iF:=iA.putL (by omega:w0.heap.size<=L) Fb (λt' f c hf Ft=>((vK _ _ _ _ hf.F).1 L Ft).2 rfl) (.loop {rec st pe with state:=.exhausted});rw[<-hσR] at iF;have iG:=i1.ofRnd RL (λk hk e=>by have:=aqd k hk;omega) iF;have kS:SameBut wr a aM:=⟨by rw[Fe],λt _=>by rw[Fe]⟩
  refine⟨pe,_,RI,?_⟩;rw[hP] at e2;rcases e2 with⟨e3,rfl,Fc,_,rfl⟩|⟨rfl,rz,_,y,id,O',g1,g2,rfl,g4,g5⟩
  .rcases lF with⟨g1,g2⟩|⟨g1,_⟩
   .obtain rfl:i'=m:=by omega
    rw[Fc] at iG;exact⟨_,q1,g2,rfl,kS,_,_,_,iG⟩
   .omega
  .rcases lF with⟨g6,_⟩|⟨_,y',bP,O'',k1,k2,k3⟩
   .omega
   .rw[g1] at k1;cases k1;rw[g2] at k2;cases k2;rcases k3 with⟨k3,k4⟩|⟨k3,pe',k4,k5⟩
    .rcases g5 with⟨_,rfl⟩|⟨g5,_⟩
     .exact wpIn_exit ⟨_,Sx,k4,k3,eT.2 ⟨g4,by simp[fy k3]⟩,kS,_,_,_,iG⟩
     .exact absurd g5 k3
    .rcases g5 with⟨g5,_⟩|⟨_,rfl⟩
     .exact absurd k3 g5
     .subst k3;rw[<-vT,az] at k4;obtain⟨M,hM,Sv⟩:=k4;obtain⟨M',hM',uJ⟩:=Tv (⟨_,_,_,iG⟩:Good C w0 σ0 (Sx.st ids) _ (λ_=>False) aM _) q2.ex none g4;rw[hM] at hM';cases hM';obtain⟨σm,aHp,hvm,im⟩:=uJ;exact wpIn_ret ⟨_,k5,Inv.retD hC (λ_=>rfl) kr Sv _ im rfl,kS⟩
def ae8 {arr:Array MapEntry}{clock:Nat}(hb:nE arr clock){idx:List Nat}(hi:∀i,i∈idx->i<arr.size){i:Nat}{e:MapEntry}(he:arr[i]?=some e):(gH arr idx).contains e.born=true↔i∈idx:=by
 simp only[gH,List.contains_toArray,List.contains_iff_mem,bZ];constructor
 .rintro⟨j,hj,h⟩;have af:=hi j hj;rw[iN af] at h;simp only at h;have:=hb.2 j i arr[j] e (iN af) he h;rw[<-this];exact hj
 .intro h;exact⟨i,h,by rw[he]⟩
def aw5 (arr:Array MapEntry)(idx:List Nat){i:Nat}{e:MapEntry}(he:arr[i]?=some e):(gH arr idx).push e.born=gH arr (idx++[i]):=by
 simp[gH,he]
def auq {P:Program}{w:World}{k m:Nat}{arr:Array MapEntry}{clock:Nat}{idx:List Nat}(hk:w.heap[k]?=some (.mapIter (some m) clock (gH arr idx) clock))(hm:w.heap[m]?=some (.map arr clock))(hb:nE arr clock)(hi:∀i,i∈idx->i<arr.size)(T:TypeId):
 ∃w1:World,(w1=w\/w1=w.drew)/\(((∀i,i<arr.size->i∈idx)/\(Instr.next (.pointer (some ⟨k,0,none⟩)) false T).run P w=.ok (.tuple #[.bool false]) w1)\/
  ∃i e,arr[i]?=some e/\i∉idx/\(Instr.next (.pointer (some ⟨k,0,none⟩)) false T).run P w=.ok (.tuple #[.bool true,e.key,e.val]) {w1 with heap:=w1.heap.setIfInBounds k (.mapIter (some m) clock (gH arr (idx++[i])) clock)}):=by
 have cW:∀{e:MapEntry},e∈arr->∃i:Nat,arr[i]?=some e:=λhe=>by
  obtain⟨i,hi,rfl⟩:=Array.mem_iff_getElem.1 he;exact⟨i,iN hi⟩
 have hold:∀(l:Array MapEntry),(∀e,e∈l->e.born<clock)->l.filter (λx=>decide (x.born<clock))=l:=λl h=>by
  rw[Array.filter_eq_self];intro e he;simpa using h e he
 have l7:∀(l:Array MapEntry),(∀e,e∈l->e.born<clock)->l.filter (λx=>decide (x.born>=clock))=#[]:=λl h=>by
  rw[Array.filter_eq_empty_iff];intro e he;have:=h e he;simp;omega
 have Rw:∀e,e∈arr->e.born<clock:=λe he=>by obtain⟨i,hi⟩:=cW he;exact hb.1 i e hi
 have ko:(!(gH arr idx).isEmpty&& !arr.isEmpty&&arr.all (λx=>decide (x.born>=clock)))=false:=by
  cases ha:arr.isEmpty
  .have au:arr.size≠0:=by simpa using ha
   have:arr.all (λx=>decide (x.born>=clock))=false:=by
        rw[Z5];intro h;rw[Array.all_eq_true] at h;have h0:=h 0 (by omega);have h1:=Rw arr[0] (Z2 _);simp at h0;omega
   rw[this,zX]
  .simp
 let left:=arr.filter λe=> !(gH arr idx).contains e.born
 have hl:∀e,e∈left->e.born<clock:=λe he=>Rw e (Z3.1 he).1;by_cases hz:left.size=0
 .refine⟨w,.inl rfl,.inl ⟨λi af=>?_,?_⟩⟩
  .by_cases bO:i∈idx
   .exact bO
   .exfalso;have Ly:arr[i]∈left:=Z3.2 ⟨Z2 _,by
     have:=ae8 hb hi (iN af);cases hc:(gH arr idx).contains arr[i].born with
     |false=>rfl
     |true=>exact absurd (this.1 hc) bO⟩
    have:left=#[]:=OL hz;rw[this] at Ly;simp at Ly
  .have he:left=#[]:=OL hz;have uH:arr.filter (λe=> !(gH arr idx).contains e.born)=#[]:=he;simp only[Instr.next,getObj,Sem.run_bind,Sem.run,hk,hm,Result.andThen_ok,ko,uH];simp[Question.forced,Sem.run]
 .have ru:left.filter (λx=>decide (x.born<clock))=left:=hold left hl;have Fq:left.filter (λx=>decide (x.born>=clock))=#[]:=l7 left hl;have hem:left.isEmpty=false:=by simpa using hz
  have key:∀c,c<left.size->∃i e,arr[i]?=some e/\i∉idx/\left[c]?=some e:=λc hc=>by
   have Ly:left[c]∈left:=Z2 _;obtain⟨h1,h2⟩:=Z3.1 Ly;obtain⟨i,df⟩:=cW h1;refine⟨i,left[c],df,λbO=>?_,iN hc⟩;rw[(ae8 hb hi df).2 bO] at h2;cases h2
  obtain⟨w1,c,jc,hc,kQ⟩:∃w1 c,(w1=w\/w1=w.drew)/\c<left.size/\(choose (.mapNext left.size)).run P w=.ok c w1:=by
   by_cases h1:left.size<=1
   .exact⟨w,0,.inl rfl,by omega,by simp[Question.forced,h1]⟩
   .exact⟨w.drew,_,.inr rfl,qI _ (by omega),by simp[Question.forced,h1,Question.cut];rfl⟩
  obtain⟨i,e,h1,h2,h3⟩:=key c hc;refine⟨w1,jc,.inr ⟨i,e,h1,h2,?_⟩⟩;have yC:arr.filter (λe=> !(gH arr idx).contains e.born)=left:=rfl;have jQ:(getObj k).run P w=.ok (.mapIter (some m) clock (gH arr idx) clock) w:=by simp[getObj,Sem.run,hk]
  have iv:(getObj m).run P w=.ok (.map arr clock) w:=by simp[getObj,Sem.run,hm]
  have bC:w1.heap[k]?=some (.mapIter (some m) clock (gH arr idx) clock):=by rcases jc with rfl|rfl<;>exact hk
  have hg3:(setObj k (.mapIter (some m) clock ((gH arr idx).push e.born) clock)).run P w1=.ok () {w1 with heap:=w1.heap.setIfInBounds k (.mapIter (some m) clock ((gH arr idx).push e.born) clock)}:=by simp[setObj,Sem.run,bC]
  have apO:((if false=true then #[none] else #[])++Array.map some (left++#[]):Array (Option MapEntry))=left.map some:=by simp
  have ju:(left.map some)[c]?=some (some e):=by simp[h3]
  have ac5:∀(Ek:Array (Option MapEntry)) (cc:Nat),(choose (.mapNext Ek.size)).run P w=.ok cc w1->Ek[cc]?=some (some e)->(do
        match Ek[<-choose (.mapNext Ek.size)]? with
        |some (some e)=>
         setObj k (.mapIter (some m) clock ((gH arr idx).push e.born) clock)
         pure (.tuple #[.bool true,e.key,e.val])
        |some none=>(pure (.tuple #[.bool false]):Sem Value)
        |none=>stuck "Next: no such candidate" :Sem Value).run P w=.ok (.tuple #[.bool true,e.key,e.val]) {w1 with heap:=w1.heap.setIfInBounds k (.mapIter (some m) clock ((gH arr idx).push e.born) clock)}:=by
   intro Ek cc h4 h5;rw[Sem.run_bind,h4];simp only[Result.andThen_ok,h5];rw[Sem.run_bind,hg3];rfl
  rw[aw5 arr idx h1] at ac5 hg3;have:=ac5 (left.map some) c (by rw[Array.size_map];exact kQ) ju;simp only[Instr.next];rw[Sem.run_bind,jQ];simp only[Result.andThen_ok];rw[Sem.run_bind,iv];simp only[Result.andThen_ok,ko,yC,ru,Fq,hem];rw[apO,if_neg (by decide)];exact this
def ant {P:Program}{w:World}{k m:Nat}{arr:Array MapEntry}{clock:Nat}{idx:List Nat}{i:Nat}{e:MapEntry}(hk:w.heap[k]?=some (.mapIter (some m) clock (gH arr (idx++[i])) clock))(hm:w.heap[m]?=some (.map arr clock))(hb:nE arr clock)(he:arr[i]?=some e):
 (Instr.entry (.pointer (some ⟨k,0,none⟩))).run P w=.ok (.tuple #[e.key,e.val]) w:=by
 have apL:(gH arr (idx++[i])).back?=some e.born:=by simp[gH,he]
 have Fv:arr.find? (λx=>x.born==e.born)=some e:=by
  have af:i<arr.size:=(eB.1 he).1;have hei:arr[i]=e:=(eB.1 he).2;rw[Array.find?_eq_some_iff_getElem];refine⟨by simp,i,af,hei,λj hj=>?_⟩;have gU:j<arr.size:=by omega
  cases hc:(arr[j].born==e.born) with
  |false=>rfl
  |true=>
   have:=hb.2 j i arr[j] e (iN gU) he (by simpa using hc);omega
 simp[Instr.entry,getObj,Sem.run_bind,Sem.run,hk,hm,apL,Fv]
def aud {x y z:Code}{k:Nat}{p:MP}(h:Cr x y k z=some p):∃i1 i2 o1 o2 o3 l,x=.region i1 p.ops1 false/\y=.cond (.tmp p.mo) .skip (.exit p.out)/\z=.region i2 p.ops2 false/\p.next=k/\p.ops1.toList=[o1,o2]/\p.ops2.toList=o3::l/\
 o1.dst=some p.nx/\o1.guard=none/\o1.op=.next (.tmp p.it) false/\o2.dst=some p.mo/\o2.guard=none/\o2.op=.extract (.tmp p.nx) 0/\o3.dst=some p.pr/\o3.guard=none/\o3.op=.entry (.tmp p.it)/\lQ p.pr l []=some p.aa/\
 p.it≠p.nx/\p.it≠p.mo/\p.it≠p.pr/\p.nx≠p.mo/\p.out≠cR/\k≠cR:=by
 unfold Cr at h;split at h
 case h_2=>cases h
 rename_i i1 ops1 mo out i2 ops2;split at h
 case h_2=>cases h
 rename_i o1 o2 o3 l e1 e2;split at h
 case h_2=>cases h
 rename_i nx it mo' nx' pr it' d1 g1 q1 d2 g2 q2 d3 g3 q3;rw[qD] at h;split at h
 case isFalse=>cases h
 rename_i hc;simp only[aA] at h;obtain⟨aa,h4,rfl⟩:=h;simp only[ao,kJ] at hc;obtain⟨⟨⟨⟨⟨⟨⟨⟨c1,c2⟩,c3⟩,c4⟩,c5⟩,c6⟩,c7⟩,c8⟩,c9⟩:=hc;have ne:∀{a b:Nat},Nat.beq a b=false->a≠b:=λh e=>by subst e;simp at h
 obtain rfl:=ay c1;obtain rfl:=ay c2;obtain rfl:=ay c3;exact⟨i1,i2,o1,o2,o3,l,rfl,rfl,rfl,rfl,e1,e2,d1,g1,q1,d2,g2,q2,d3,g3,q3,h4,ne c4,ne c5,ne c6,ne c7,ne c8,ne c9⟩
def MM {pr:Nat}:∀(l:List Oper) {acc aa:List (Nat×Nat)},lQ pr l acc=some aa->∀x,x∈acc->x∈aa
 |[],acc,aa,h,x,hx=>by simp only[lQ,aY] at h;subst h;exact hx
 |o::l,acc,aa,h,x,hx=>by
  simp only[lQ] at h;split at h
  case h_2=>cases h
  rw[qD] at h;split at h
  .cases h
  split at h
  .rw[qD] at h;split at h
   .exact MM l h x (jn _ hx)
   .cases h
  .simp only[az] at h;obtain⟨i,_,h⟩:=h;exact MM l h x (jn _ hx)
  .simp only[az] at h;obtain⟨i,_,h⟩:=h;exact MM l h x (jn _ hx)
  .cases h
def Gt:∀{l:List (Nat×Nat)} {t i:Nat},wz l t=some i->(t,i)∈l
 |x::l,t,i,h=>by
  simp only[wz] at h;cases hb:Nat.beq x.1 t<;>simp only[hb,zyy,zyx] at h
  .exact fw _ (Gt h)
  .cases h;have:=ay hb;subst this;exact fR ..
def ae0:∀{l:List (Nat×Nat)} {t:Nat},(wz l t).isSome=false->∀x,x∈l->x.1≠t
 |y::l,t,h,x,hx=>by
  simp only[wz] at h;cases hb:Nat.beq y.1 t<;>simp only[hb,zyy,zyx] at h
  .rcases cB.1 hx with e|hx
   .subst e;intro e;subst e;simp at hb
   .exact ae0 h x hx
  .cases h
def UL {pr:Nat}:∀(l:List Oper) {acc aa:List (Nat×Nat)},lQ pr l acc=some aa->(∀x,x∈acc->x.2<=1)->∀x,x∈aa->x∈acc\/(x.2<=1/\∃o,o∈l/\o.dst=some x.1)
 |[],acc,aa,h,_,x,hx=>by simp only[lQ,aY] at h;subst h;exact .inl hx
 |o::l,acc,aa,h,ha,x,hx=>by
  simp only[lQ] at h;split at h
  case h_2=>cases h
  rename_i d hd lD;rw[qD] at h;split at h
  .cases h
  have go:∀(pt:Nat),pt<=1->lQ pr l (acc++[(d,pt)])=some aa->x∈acc\/(x.2<=1/\∃o',o'∈o::l/\o'.dst=some x.1):=by
   intro pt vS hp
   rcases UL l hp (λy hy=>by
        rcases dR.1 hy with h|h
        .exact ha y h
        .simp at h;subst h;exact vS) x hx with h|⟨h1,o',h2,h3⟩
   .rcases dR.1 h with h|h
    .exact .inl h
    .simp at h;subst h;exact .inr ⟨vS,o,fR ..,hd⟩
   .exact .inr ⟨h1,o',fw _ h2,h3⟩
  split at h
  .rw[qD] at h;split at h
   case isFalse=>cases h
   rename_i ju;simp only[ao] at ju;exact go _ (jH ju.2) h
  .simp only[az] at h;obtain⟨i,hi,h⟩:=h;exact go i (ha _ (Gt hi)) h
  .simp only[az] at h;obtain⟨i,hi,h⟩:=h;exact go i (ha _ (Gt hi)) h
  .cases h
def CE {P:Program}{ops:Array Oper}{i:Nat}{rest:List Nat}{o:Oper}{rd:Option Nat}{a:Act}{w w':World}{Q:Exit->Act->World->Prop}{v:Value}(ho:ops[i]?=some o)(hg:o.guard=none)(bn:tu o.op=true)(hx:(execOp a.eval o).run P w=.ok (.value v) w')
 (k:wpOpsIn (FR rd) 0 P ops Q rest (a.put o.dst v) w'):wpOpsIn (FR rd) 0 P ops Q (i::rest) a w:=by
 simp only[wpOpsIn,ho];rw[if_pos (by simp[Region.wanted,hg])];exact ahg bn (by unfold Oper.wp;rw[hx];exact k)
def aw0 {ops:Array Oper}{o:Oper}(ho:o∈ops.toList)(a:Act)(v:Value):SameBut (Bt ops) a (a.put o.dst v):=by
 have:=SameBut.put a o.dst v a.defers;exact this.mono λt e=>⟨o,ho,e⟩
def CM {a:Act}{d:Nat}{v:Value}(h:d<a.tmps.size):(a.put (some d) v).tmps.getD d undef=v:=by rw[zN];simp[h]
def MW {a:Act}{d t:Nat}{v:Value}(h:t≠d):(a.put (some d) v).tmps.getD t undef=a.tmps.getD t undef:=by rw[zN];simp[h]
def put_defers (a:Act)(d:Option Nat)(v:Value):(a.put d v).defers=a.defers:=by cases d<;>rfl
def GH (kv vv:Value)(i:Nat):Value:=if i=0 then kv else vv
def ahq {P:Program}{ops:Array Oper}{rd:Option Nat}{Q:Exit->Act->World->Prop}{pr:Nat}{kv vv:Value}{w:World}:∀(l:List Oper) (acc aa:List (Nat×Nat)) (i:Nat) (a:Act),lQ pr l acc=some aa->ops.toList.drop i=l->(∀x,x∈aa->x.1<a.tmps.size)->a.tmps.getD pr undef=.tuple #[kv,vv]->
 (∀x,x∈acc->a.tmps.getD x.1 undef=GH kv vv x.2)->(∀a',SameBut (Bt ops) a a'->a'.defers=a.defers->(∀x,x∈aa->a'.tmps.getD x.1 undef=GH kv vv x.2)->Q .normal a' w)->wpOpsIn (FR rd) 0 P ops Q (List.range' i (ops.size-i)) a w
 |[],acc,aa,i,a,h,hl,af,rF,Ff,hQ=>by
  simp only[lQ,aY] at h;subst h;have:ops.size-i=0:=by
    have:=aae.1 hl;simp at this;omega
  rw[this];exact hQ a (.refl _ _) rfl Ff
 |o::l,acc,aa,i,a,h,hl,af,rF,Ff,hQ=>by
  have hi:i<ops.toList.length:=by
   refine aat λhle=>?_;rw[aae.2 hle] at hl;cases hl
  rw[aad hi] at hl;have ho:ops[i]?=some o:=by
   have:ops.toList[i]=o:=by injection hl
   rw[<-this];simp at hi ⊢
  have sW:ops.toList.drop (i+1)=l:=by injection hl
  have aI:ops.size-i=(ops.size-(i+1))+1:=by simp at hi;omega
  rw[aI,O2];have cW:o∈ops.toList:=by simpa using qC ho
  simp only[lQ] at h;split at h
  case h_2=>cases h
  rename_i d hd lD;rw[qD] at h;split at h
  .cases h
  rename_i hc;simp only[kK,not_or,Bool.not_eq_true] at hc;have hdp:pr≠d:=λe=>by subst e;simp at hc
  have RE:∀x,x∈acc->x.1≠d:=ae0 hc.2;have go:∀(pt:Nat) (v:Value),lQ pr l (acc++[(d,pt)])=some aa->tu o.op=true->v=GH kv vv pt->(execOp a.eval o).run P w=.ok (.value v) w->wpOpsIn (FR rd) 0 P ops Q (i::List.range' (i+1) (ops.size-(i+1))) a w:=by
   intro pt v hp bn hv hx;have Fo:d<a.tmps.size:=af _ (MM l hp (d,pt) (by simp));refine CE ho lD bn hx ?_;have kS:=aw0 cW a v;rw[hd] at kS ⊢;refine ahq l _ aa (i+1) _ hp sW (λx hx=>by rw[kS.size];exact af x hx) (by rw[MW hdp];exact rF) (λx hx=>?_) (λa' h1 h2 h3=>hQ a' (kS.trans h1) (h2.trans (put_defers _ _ _)) h3);rcases dR.1 hx with hx|hx
   .rw[MW (RE x hx)];exact Ff x hx
   .simp at hx;subst hx;rw[CM Fo];exact hv
  split at h
  .rename_i t pt e;rw[qD] at h;split at h
   case isFalse=>cases h
   rename_i ju;simp only[ao] at ju;have ht:=ay ju.1;have vS:=jH ju.2;subst ht;have bK:a.eval (.tmp t)=.tuple #[kv,vv]:=by simpa [Act.eval] using rF
   refine go pt (GH kv vv pt) h (by rw[e];rfl) rfl ?_;rcases(by omega:pt=0\/pt=1) with rfl|rfl<;>simp[execOp,e,bK,Instr.extract,GH]
  .rename_i t e;simp only[az] at h;obtain⟨pt,yC,h⟩:=h;have:=Ff _ (Gt yC);exact go pt (a.eval (.tmp t)) h (by rw[e];rfl) (by simpa [Act.eval] using this) (by simp[execOp,e])
  .rename_i t e;simp only[az] at h;obtain⟨pt,yC,h⟩:=h;have:=Ff _ (Gt yC);exact go pt (a.eval (.tmp t)) h (by rw[e];rfl) (by simpa [Act.eval] using this) (by simp[execOp,e])
  .cases h
def Tc (ids:List Nat)(J j:Nat)(S:Snap):((S.kill ids J).st ids).o j=if j=J then .dead else(S.st ids).o j:=by
 show dx ids (yY ids J S.os) j=_;have:∀(is:List Nat) (os:List Ob),dx is (yY is J os) j=if j=J then .dead else dx is os j:=by
  intro is
  induction is with
  |nil=>intro os;simp[yY,dx]
  |cons i is ih=>
   intro os;cases os with
   |nil=>simp[yY,dx]
   |cons o os=>
    simp only[yY,dx];cases hb:Nat.beq i j
    .simp only[zyx];exact ih os
    .have:=ay hb;subst this;simp only[zyy];by_cases dK:i=J
     .subst dK;simp
     .simp[fy dK,dK]
 exact this ids S.os
def aa1 {N:Nat}{id:Nat}(Lr:id≠cR){rm:Bool}{wr:Nat->Prop}{a:Act}{q:Res2}{x xi:Out}(sX:(∀t,t∈q.pc.modR->aR q.mr t=true)/\∀j,j∈q.pc.modO->j∈q.mo)(dM:q.pc.ev Z N O=some xi)(bK:(gQ ids id q).pc.ev Z N O=some x){e:Exit}{a':Act}{w':World}
 (fW:il C w0 σ0 ids fn s rm wr a q.out q.ex xi e a' w'):Exit.inBlock id (il C w0 σ0 ids fn s rm wr a (gQ ids id q).out (gQ ids id q).ex x) e a' w':=by
 have Fu:∀bP S1,(bP,S1)∈q.ex->bP≠id->(bP,S1)∈q.ex.filter λx=> !Nat.beq x.1 id:=λbP S1 hm au=>eT.2 ⟨hm,by simp[fy au]⟩;have main:∀(o:Option Snap) (lr lo:List Nat),qa id q.ex q.out=o->(∀M,o=some M->lr=kW M q.mr/\lo=jU ids M q.mo)->(PC.block id lr lo q.pc).ev Z N O=some x->
        Exit.inBlock id (il C w0 σ0 ids fn s rm wr a o (q.ex.filter λx=> !Nat.beq x.1 id) x) e a' w':=by
  intro o lr lo ho hl bK;simp only[PC.ev] at bK;rw[dM] at bK
  have fin:∀{ρ1:Env} {a':Act} {w':World},(∃M,o=some M/\Good C w0 σ0 (M.st ids) ρ1 (λ_=>False) a' w')->xi.env?=some ρ1->x=.next (O.join lr lo ρ1)->SameBut wr a a'->
   il C w0 σ0 ids fn s rm wr a o (q.ex.filter λx=> !Nat.beq x.1 id) x .normal a' w':=by
        intro ρ1 a' w' hM yt hx dX;obtain⟨M,hM,uJ⟩:=hM;obtain⟨l1,l2⟩:=hl M hM;subst l1 l2;exact⟨_,M,hx,hM,dX,uJ.joined (PC.ev_but q.pc O _ ρ1 dM yt) sX.1 sX.2⟩
  cases e with
  |normal=>
   obtain⟨ρ1,S2,e1,e2,dX,iv⟩:=fW;subst e1;simp only[aY] at bK;refine fin ?_ rfl bK.symm dX;rw[e2] at ho;obtain⟨M,h1,h2⟩:=Mg (id:=id) q.ex iv;rw[ho] at h1;exact⟨M,h1,h2⟩
  |exit bP=>
   obtain⟨ρ1,S2,e1,e0,e2,dX,iv⟩:=fW;subst e1;simp only at bK;show if bP=id then _ else _;by_cases cM:bP=id
   .subst cM;simp only[ke,zyy,aY] at bK;simp only[if_true];refine fin ?_ rfl bK.symm dX;rw[<-ho];exact Tv iv q.ex q.out e2
   .simp only[fy cM,zyx,aY] at bK;subst bK;simp only[cM,if_false];exact⟨ρ1,S2,rfl,e0,Fu _ _ e2 cM,dX,iv⟩
  |ret=>
   cases rm with
   |false=>
    have hy:=fW;obtain⟨d,e1,_⟩:=hy;subst e1;simp only[aY] at bK;subst bK;exact fW
   |true=>
    obtain⟨ρ1,S2,e1,e2,dX,iv⟩:=fW;subst e1;simp only[fy (λe=>Lr e.symm:cR≠id),zyx,aY] at bK;subst bK;exact⟨ρ1,S2,rfl,Fu _ _ e2 (λe=>Lr e.symm),dX,iv⟩
  |_=>exact fW.elim
 unfold gQ at bK ⊢;cases hm:qa id q.ex q.out with
 |none=>
  simp only[hm] at bK ⊢;exact main none [] [] hm (λM e=>by cases e) bK
 |some M=>
  simp only[hm] at bK ⊢;exact main (some M) _ _ hm (λM' e=>by cases e;exact⟨rfl,rfl⟩) bK
def aaZ {N id:Nat}{q:Res2}{x:Out}(bK:(gQ ids id q).pc.ev Z N O=some x):∃xi,q.pc.ev Z N O=some xi:=by
 unfold gQ at bK;cases hm:qa id q.ex q.out<;>simp only[hm,PC.ev] at bK<;>cases dM:q.pc.ev Z N O<;>first|exact⟨_,rfl⟩|(rw[dM] at bK;cases bK)
def ai2 {es:List (D×D)}{idx:List Nat}(hn:idx.Nodup)(af:∀i,i∈idx->i<es.length)(aK:∀i,i<es.length->i∈idx):(hZ es idx).Perm (jh (.map es)):=by
 have h1:idx.Perm (List.range es.length):=by
  rw[aki hn aao];intro i;rw[fS];exact⟨af i,aK i⟩
 have h2:hZ es (List.range es.length)=jh (.map es):=by
  refine OW (by simp[hZ,jh,D.m]) λi g1 g2=>?_;have hi:i<es.length:=by simpa [hZ] using g1
  simp[hZ,jh,D.m,aW hi]
 rw[<-h2];exact h1.map _
def aw6 {es:List (D×D)}{idx:List Nat}(hn:idx.Nodup)(af:∀i,i∈idx->i<es.length):∃rest,(hZ es idx++rest).Perm (jh (.map es)):=by
 refine⟨hZ es ((List.range es.length).filter λi=> !idx.contains i),?_⟩;have e:hZ es idx++hZ es ((List.range es.length).filter λi=> !idx.contains i)=hZ es (idx++(List.range es.length).filter λi=> !idx.contains i):=by simp[hZ]
 rw[e];refine ai2 ?_ (λi hi=>?_) (λi hi=>?_)
 .rw[IN];refine⟨hn,aao.filter _,λa ha b hb e=>?_⟩;subst e;have:=(eT.1 hb).2;simp[ha] at this
 .rcases dR.1 hi with h|h
  .exact af i h
  .exact fS.1 (eT.1 h).1
 .by_cases h:i∈idx
  .exact jn _ h
  .exact jG _ (eT.2 ⟨fS.2 hi,by simp[h]⟩)
def ai3 (es:List (D×D))(idx:List Nat){i:Nat}{p:D×D}(h:es[i]?=some p):hZ es (idx++[i])=hZ es idx++[.tup [p.1,p.2]]:=by simp[hZ,h]
def auf {N:Nat}{x y z code:Code}{k:Nat}{p:MP}(hp:Cr x y k z=some p)(ihc:xJ C Z fn s n ids R N code){rm:Bool}{S:Snap}{r:Res2}
 (hr:Cs ids n p (cD x++(cD y++(cD z++cD code))) (λS=>comp C fn s n ids R rm code S) S=some r) {rd:Option Nat} {wr:Nat->Prop} {x0:Out} (gx:rm=false->rd=none/\σ0.fin) (hC:CtxOK C σ0) (hY:ub C Z w0 σ0)
 (gA:∀t,t∈cD (.loop (.seq x (.seq y (.block k (.seq z code)))))->wr t) (hn:a.tmps.size=n) (hg:Good C w0 σ0 (S.st ids) O (λ_=>False) a w) (he:r.pc.ev Z N O=some x0):
 (Code.loop (.seq x (.seq y (.block k (.seq z code))))).wpIn (FR rd) 0 C.P (il C w0 σ0 ids fn s rm wr a r.out r.ex x0) a w:=by
 obtain⟨i1,i2,o1,o2,o3,l,rfl,rfl,rfl,hk,e1,e2,d1,g1,q1,d2,g2,q2,d3,g3,q3,oB,n1,n2,n3,n4,n5,n6⟩:=aud hp;subst hk;unfold Cs at hr;split at hr
 case h_2=>cases hr;exact absurd he (nw _ _ _ _)
 rename_i J hJ;split at hr
 case h_2=>cases hr;exact absurd he (nw _ _ _ _)
 rename_i kt et Lv;simp only at hr;split at hr
 case h_2=>cases hr;exact absurd he (nw _ _ _ _)
 rename_i q hq;rw[qD] at hr;split at hr
 case isFalse=>cases hr;exact absurd he (nw _ _ _ _)
 rename_i yq;cases hr;generalize LR:cD (.region i1 p.ops1 false)++(cD (.cond (.tmp p.mo) .skip (.exit p.out))++(cD (.region i2 p.ops2 false)++cD code))=ws at*;simp only[ao,kJ] at yq;obtain⟨⟨⟨⟨⟨⟨⟨⟨c1,c2⟩,c3⟩,c4⟩,c5⟩,c6⟩,c7⟩,c8⟩,c9⟩:=yq;have hex:q.2.ex=[]:=aak.1 c1;have acu:J∉q.2.mo:=λh=>by rw[(rM _ _).2 h] at c2;cases c2
 simp only[aeq,ao,kJ] at c3;obtain⟨⟨c3a,c3b⟩,c3c⟩:=c3;have arp:q.1.rs.getD p.it .none=.obj J 0:=Sh.beq_eq _ _ c3a;have LD:dx ids q.1.os J=.it kt et:=Ob.beq_eq _ _ c3b;have arh:∀t,t∈p.aa.map (·.1)->t<n:=λt ht=>by have:=cP.1 c5 t ht;rwa [pj] at this
 have Sb:p.nx<n:=by rwa [pj] at c6
 have R0:p.mo<n:=by rwa [pj] at c7
 have rF:p.pr<n:=by rwa [pj] at c8
 have FJ:=ay c9;obtain⟨hs,BX,bO⟩:=Gm (C:=C) (w0:=w0) (σ0:=σ0) (ids:=ids) 8 hq;simp only[aA] at hs;obtain⟨q0,s9,gX⟩:=hs;obtain⟨qS,qR⟩:=q;simp only at*;subst gX;generalize hm:y7 ws=m at*;generalize pP:jU ids qS (gQ ids p.next q0).mo=lo at*;have R3:=aa0 (ids:=ids) (id:=p.next) (vD code s9);have aqH:∀j,j∈lo->j∈(gQ ids p.next q0).mo:=λj hj=>by rw[<-pP] at hj;exact Ct hj
 have aFC:J∉lo:=λh=>acu (aqH J h);have FX:∃Du,MQ ((gQ ids p.next q0).pc.ev Z N) O J (p.aa.map (·.1)) (p.aa.map (·.2)) lo Du/\x0=.exit p.out (O.put [] [] lo Du):=by
  simp only[PC.ev] at he;cases rF:MR ((gQ ids p.next q0).pc.ev Z N) O J (p.aa.map (·.1)) (p.aa.map (·.2)) lo with
  |none=>rw[rF] at he;cases he
  |some y=>
   obtain⟨Du,h1,rfl⟩:=CJ.1 rF;rw[rF] at he;simp only[aY] at he;exact⟨Du,h1,he.symm⟩
 obtain⟨Du,⟨FQ,apC⟩,Gc⟩:=FX;generalize jP:(O.o J).tget 1=es at*
 have jc:∀o,o∈p.ops1.toList->∀d,o.dst=some d->d∈ws:=λo ho d hd=>by
  rw[<-LR];exact jn _ (Af.2 ⟨o,ho,hd⟩)
 have da:∀o,o∈p.ops2.toList->∀d,o.dst=some d->d∈ws:=λo ho d hd=>by
  rw[<-LR];exact jG _ (jG _ (jn _ (Af.2 ⟨o,ho,hd⟩)))
 have hwc:∀d,d∈cD code->d∈ws:=λd hd=>by
  rw[<-LR];exact jG _ (jG _ (jG _ hd))
 have SQ:∀t,t∈ws->wr t:=λt ht=>gA t (by rw[<-LR] at ht;exact ht);have uQ:∀t,t∈ws->aR m t=true:=λt ht=>by rw[<-hm];exact aaX ht
 have RZ:∀t,aR m t=true->((qS.mask m).st ids).r t=.none:=λt ht=>by rw[Gw,if_pos ht]
 have aqO:∀t,isNone (((qS.mask m).st ids).r t)=false->aR m t=false:=λt ht=>by
  cases hb:aR m t with
  |false=>rfl
  |true=>rw[RZ t hb] at ht;cases ht
 have jS:((qS.mask m).st ids).r p.it=.obj J 0:=by
  rw[Gw,c3c];show cK (qS.rs.getD p.it .none)=_;rw[arp];rfl
 have cT:((qS.mask m).st ids).o J=.it kt et:=LD;have kz:p.ops1[0]?=some o1:=by rw[<-pf,e1];rfl
 have fJ:p.ops1[1]?=some o2:=by rw[<-pf,e1];rfl
 have ho3:p.ops2[0]?=some o3:=by rw[<-pf,e2];rfl
 have arN:List.range p.ops1.size=[0,1]:=by
  have:p.ops1.size=2:=by rw[<-zW,e1];rfl
  rw[this];rfl
 have vY:List.range p.ops2.size=0::List.range' 1 (p.ops2.size-1):=by
  have:p.ops2.size=l.length+1:=by rw[<-zW,e2];rfl
  rw[this,O3,O2];rfl
 have key:∀(kk:Nat) (done vo:List D) (a':Act) (w':World),SameBut wr a a'->Good C w0 σ0 ((qS.mask m).st ids) ((O.put [] [] lo vo).setO J (.tup [.list done,es])) (λ_=>False) a' w'->
  (∀ys,(done++ys).Perm (jh es)->qh ((gQ ids p.next q0).pc.ev Z N) O J es (p.aa.map (·.1)) (p.aa.map (·.2)) lo ys done vo=some Du)->done.length+kk=(jh es).length+1->
  Code.roundsIn (FR rd) 0 C.P (.seq (.region i1 p.ops1 false) (.seq (.cond (.tmp p.mo) .skip (.exit p.out)) (.block p.next (.seq (.region i2 p.ops2 false) code)))) (il C w0 σ0 ids fn s rm wr a none [(p.out,(qS.mask m).kill ids J)] x0) kk a' w':=by
  intro kk
  induction kk with
  |zero=>
   intro done vo a' w' _ lC _ hlen;exfalso;obtain⟨V,own,hv,h⟩:=lC;have bj:=h.objs J;rw[cT] at bj;obtain⟨kb,mb,arr,clock,fU,idx,h1,h2,h3,au,h4,h5,h6,h7,h8,h9,jr,uC⟩:=bj;simp only[Env.setO,aN] at h6;injection h6 with h6;injection h6 with yj yk;injection yk with yk _;injection yj with yj;subst yj;subst yk;have hle:idx.length<=arr.size:=by
        have:=List.Nodup.length_le_of_subset h7 (l₂:=List.range arr.size) (λi hi=>fS.2 (h8 i hi));simpa using this
   simp[hZ,jh,D.m] at hlen;omega
  |succ kk ih=>
   intro done vo a' w' kS lC aK hlen;rw[roundsIn_succ];obtain⟨V,own,hv,h⟩:=lC;have bj:=h.objs J;rw[cT] at bj;obtain⟨kb,mb,arr,clock,fU,idx,h1,h2,h3,au,h4,h5,h6,h7,h8,h9,jr,uC⟩:=bj;simp only[Env.setO,aN] at h6;injection h6 with h6;injection h6 with yj yk;injection yk with yk _;injection yj with yj;subst yj;subst yk;have gw:=h.regs p.it;rw[jS] at gw;have Ls:a'.eval (.tmp p.it)=.pointer (some ⟨kb,0,none⟩):=by
        have:=gw.2 rfl;simp only[Act.eval];rw[this];exact h1
   have vX:a'.tmps.size=n:=kS.size.trans hn;obtain⟨w1,ad3,LB⟩:=auq (P:=C.P) h5 h4 jr h8 o1.type;have Ga:Below w'.heap.size w' w1:=by rcases ad3 with rfl|rfl;exact .refl _ _;exact⟨rfl,rfl,rfl,ba _,λ_ _=>rfl⟩
   have Cg:w1.heap=w'.heap:=by rcases ad3 with rfl|rfl<;>rfl
   have hkl:kb<w'.heap.size:=(h.owns kb J h2).2.1;have rz:mb<w'.heap.size:=(h.owns mb J h3).2.1;refine wpIn_seq (wpIn_region ?_);rw[arN];rcases LB with⟨RM,ak⟩|⟨i,e,uL,yx,ak⟩
   ·
        refine CE kz g1 (by rw[q1];rfl) (v:=.tuple #[.bool false]) (w':=w1) (by simp only[execOp,q1,Ls];simp[ak]) ?_;rw[d1]
        refine CE fJ g2 (by rw[q2];rfl) (v:=.bool false) (w':=w1) (by
         have:(a'.put (some p.nx) (.tuple #[.bool false])).eval (.tmp p.nx)=.tuple #[.bool false]:=by simp only[Act.eval];exact CM (by omega)
         simp only[execOp,q2,this];simp[Instr.extract]) ?_
        rw[d2];simp only[wpOpsIn]
        have yM:SameBut (λt=>t∈ws) a' ((a'.put (some p.nx) (.tuple #[.bool false])).put (some p.mo) (.bool false)):=by
         have s1:=SameBut.put a' (some p.nx) (.tuple #[.bool false]) a'.defers;have s2:=SameBut.put (a'.put (some p.nx) (.tuple #[.bool false])) (some p.mo) (.bool false) (a'.put (some p.nx) (.tuple #[.bool false])).defers;exact(s1.mono λt e=>by cases e;exact jc o1 (by rw[e1];simp) _ d1).trans (s2.mono λt e=>by cases e;exact jc o2 (by rw[e1];simp) _ d2)
        generalize yn:(a'.put (some p.nx) (.tuple #[.bool false])).put (some p.mo) (.bool false)=a1 at yM;have R1:a1.eval (.tmp p.mo)=.bool false:=by
         rw[<-yn];simp only[Act.eval];exact CM (by rw[size_put];omega)
        have pK:a1.defers=a'.defers:=by rw[<-yn,put_defers,put_defers]
        refine wpIn_seq (wpIn_cond_false R1 (wpIn_exit ?_));have yH:(hZ fU idx++[]).Perm (jh (.map fU)):=by
         rw[tX];exact ai2 h7 (λi hi=>by rw[h9];exact h8 i hi) (λi hi=>RM i (by omega))
        have ad2:=aK [] yH;simp only[qh,aY] at ad2;subst ad2;refine⟨_,_,Gc,n5,Ah.2 rfl,kS.trans (yM.mono SQ),?_⟩;refine⟨V,own,hv,?_⟩
        refine h.step (S':=((qS.mask m).kill ids J).st ids) (O':=O.put [] [] lo vo) (A':=λ_=>False) (λj=>j=J) pK (.refl V) (h.ok.below Ga) (λ_ _ _ hx=>.inl hx) (λ_ _ hx=>.inl hx) (Ga.mono h.below.size) ⟨λ_=>ba _,λ_ _=>rfl⟩
         (λj hj=>⟨by rw[Tc,if_neg hj],by simp[Env.setO,bA _ _ hj],rfl,λb hb=>⟨hb,by rw[Cg]⟩⟩) (λj hj=>?_) (λb j hb=>?_) (λ_=>id) (λt=>?_) (λ_ hf=>hf.elim) (λb hb _=>by rw[Cg]) (λb j hb=>.inl ⟨j,hb⟩) (λj hj=>?_)
        .rw[Tc,if_pos hj];trivial
        .obtain⟨b1,b2,b3,b4⟩:=h.owns b j hb;exact⟨b1,by rw[Cg];exact b2,b3,b4⟩
        .by_cases ht:t∈ws
         .refine .inr ⟨?_,λgs s' e=>absurd e (Snap.noOpt _ _ t gs s')⟩;have:(((qS.mask m).kill ids J).st ids).r t=.none:=RZ t (uQ t ht);rw[this];trivial
         .exact .inl ⟨rfl,yM.get t ht,rfl⟩
        .rw[Tc,if_pos hj];intro e;cases e
   ·
        obtain⟨pd,Sm⟩:∃pd,fU[i]?=some pd:=⟨_,aW (by rw[h9];exact(eB.1 uL).1)⟩
        obtain⟨bC,cG⟩:=uC i e pd uL Sm;generalize Ch:({w1 with heap:=w1.heap.setIfInBounds kb (.mapIter (some mb) clock (gH arr (idx++[i])) clock)}:World)=w2 at ak;have ad4:w2.heap[kb]?=some (.mapIter (some mb) clock (gH arr (idx++[i])) clock):=by rw[<-Ch];simp[Cg,hkl]
        have yR:∀b,b≠kb->w2.heap[b]?=w'.heap[b]?:=λb hb=>by rw[<-Ch];simp only[Cg];rw[Z1 (vq hb)]
        have aGs:w2.heap.size=w'.heap.size:=by rw[<-Ch];simp[Cg]
        have ad5:w2.heap[mb]?=some (.map arr clock):=by rw[yR mb (vq au)];exact h4
        refine CE kz g1 (by rw[q1];rfl) (v:=.tuple #[.bool true,e.key,e.val]) (w':=w2) (by simp only[execOp,q1,Ls];simp[ak]) ?_;rw[d1]
        refine CE fJ g2 (by rw[q2];rfl) (v:=.bool true) (w':=w2) (by
         have:(a'.put (some p.nx) (.tuple #[.bool true,e.key,e.val])).eval (.tmp p.nx)=.tuple #[.bool true,e.key,e.val]:=by simp only[Act.eval];exact CM (by omega)
         simp only[execOp,q2,this];simp[Instr.extract]) ?_
        rw[d2];simp only[wpOpsIn]
        have yM:SameBut (λt=>t∈ws) a' ((a'.put (some p.nx) (.tuple #[.bool true,e.key,e.val])).put (some p.mo) (.bool true)):=by
         have s1:=SameBut.put a' (some p.nx) (.tuple #[.bool true,e.key,e.val]) a'.defers;have s2:=SameBut.put (a'.put (some p.nx) (.tuple #[.bool true,e.key,e.val])) (some p.mo) (.bool true) (a'.put (some p.nx) (.tuple #[.bool true,e.key,e.val])).defers;exact(s1.mono λt e=>by cases e;exact jc o1 (by rw[e1];simp) _ d1).trans (s2.mono λt e=>by cases e;exact jc o2 (by rw[e1];simp) _ d2)
        have ade:(((a'.put (some p.nx) (.tuple #[.bool true,e.key,e.val])).put (some p.mo) (.bool true))).eval (.tmp p.it)=.pointer (some ⟨kb,0,none⟩):=by
         simp only[Act.eval] at Ls ⊢;rw[MW n2,MW n1];exact Ls
        generalize yn:(a'.put (some p.nx) (.tuple #[.bool true,e.key,e.val])).put (some p.mo) (.bool true)=a1 at yM ade;have R1:a1.eval (.tmp p.mo)=.bool true:=by
         rw[<-yn];simp only[Act.eval];exact CM (by rw[size_put];omega)
        have pK:a1.defers=a'.defers:=by rw[<-yn,put_defers,put_defers]
        refine wpIn_seq (wpIn_cond_true R1 (wpIn_skip ?_));refine wpIn_block (wpIn_seq (wpIn_region ?_));rw[vY];refine CE ho3 g3 (by rw[q3];rfl) (v:=.tuple #[e.key,e.val]) (w':=w2) (by simp only[execOp,q3,ade];simp[ant ad4 ad5 jr uL]) ?_;rw[d3]
        have hs3:SameBut (λt=>t∈ws) a1 (a1.put (some p.pr) (.tuple #[e.key,e.val])):=
         (SameBut.put a1 (some p.pr) (.tuple #[e.key,e.val]) a1.defers).mono λt e=>by cases e;exact da o3 (by rw[e2];simp) _ d3
        have adU:a1.tmps.size=n:=yM.size.trans vX;refine ahq (kv:=e.key) (vv:=e.val) l [] p.aa 1 _ oB (by rw[e2];rfl) (λx hx=>by rw[hs3.size,adU];exact arh _ (bZ.2 ⟨x,hx,rfl⟩)) (CM (by rw[adU];exact rF)) (λx hx=>by cases hx) (λa2 dX dB arb=>?_);have Sz:SameBut (λt=>t∈ws) a' a2:=(yM.trans hs3).trans (dX.mono λt ⟨o,ho,hd⟩=>da o ho t hd);have apY:a2.defers=a'.defers:=by rw[dB,put_defers,pK]
        have arJ:Good C w0 σ0 (((qS.mask m).start (p.aa.map (·.1)) (p.aa.map λx=>bif Nat.beq x.2 0 then kt else et)).st ids) ((O.put (p.aa.map (·.1)) ((p.aa.map (·.2)).map (D.tup [pd.1,pd.2]).tget) lo vo).setO J (.tup [.list (hZ fU idx++[.tup [pd.1,pd.2]]),.map fU])) (λ_=>False) a2 w2:=by
         have Fj:Below w0.heap.size w' w2:=⟨by rw[<-Ch];exact Ga.os,by rw[<-Ch];exact Ga.tape,by rw[<-Ch];exact Ga.output,by omega,λb hb=>yR b (λe=>by subst e;have:=(h.owns b J h2).1;omega)⟩
         have kA:V.ok w2:=by
          refine⟨λb o v hc=>?_,λb es hc=>?_,h.ok.fz λb o v hc=>yR b λe=>by subst e;rw[(h.owns b J h2).2.2.1 o] at hc;cases hc⟩
          .have iX:b≠kb:=λe=>by subst e;rw[(h.owns b J h2).2.2.1 o] at hc;cases hc
           have:=h.ok.c b o v hc;simp only[World.cell?] at this ⊢;rw[yR b iX];exact this
          .have iX:b≠kb:=λe=>by subst e;rw[(h.owns b J h2).2.2.2] at hc;cases hc
           exact(h.ok.m b es hc).keep (yR b iX)
         have fW:∀j,((O.put (p.aa.map (·.1)) ((p.aa.map (·.2)).map (D.tup [pd.1,pd.2]).tget) lo vo).setO J (.tup [.list (hZ fU idx++[.tup [pd.1,pd.2]]),.map fU])).o j=if j=J then .tup [.list (hZ fU idx++[.tup [pd.1,pd.2]]),.map fU] else putL O.o lo vo j:=λj=>by
          simp only[Env.setO,fp];rfl
         refine⟨V,own,hv,h.step (λj=>j=J) apY (.refl V) kA (λ_ _ _ hx=>.inl hx) (λ_ _ hx=>.inl hx) Fj ⟨λ_=>ba _,λ_ _=>rfl⟩
          (λj hj=>⟨rfl,by rw[fW,if_neg hj];simp[Env.setO,bA _ _ hj,Env.put],rfl,λb hb=>⟨hb,yR b (λe=>by subst e;rw[h2] at hb;cases hb;exact hj rfl)⟩⟩) (λj hj=>?_) (λb j hb=>?_) (λ_=>id) (λt=>?_) (λ_ hf=>hf.elim)
          (λb hb ho=>yR b (λe=>by subst e;rw[h2] at ho;cases ho)) (λb j hb=>.inl ⟨j,hb⟩) (λj hj=>?_)⟩
         .subst hj;have:(((qS.mask m).start (p.aa.map (·.1)) (p.aa.map λx=>bif Nat.beq x.2 0 then kt else et)).st ids).o j=.it kt et:=LD;rw[this];refine⟨kb,mb,arr,clock,fU,idx++[i],h1,h2,h3,au,ad5,ad4,by rw[fW,if_pos rfl,ai3 fU idx Sm],?_,?_,h9,jr,uC⟩
          .rw[IN];exact⟨h7,by simp,λa ha b hb e=>by simp at hb;subst hb;subst e;exact yx ha⟩
          .intro i' df;rcases dR.1 df with h|h
           .exact h8 i' h
           .simp at h;subst h;exact(eB.1 uL).1
         .obtain⟨b1,b2,b3,b4⟩:=h.owns b j hb;exact⟨b1,by omega,b3,b4⟩
         .have hc:Compat ((qS.mask m).st ids) hv (((qS.mask m).start (p.aa.map (·.1)) (p.aa.map λx=>bif Nat.beq x.2 0 then kt else et)).st ids) hv:=⟨λ_=>ba _,λ_ _=>rfl⟩
          refine .inr ⟨?_,λgs s' e=>absurd e (Snap.noOpt _ _ t gs s')⟩;show aG C _ _ V hv (cK ((tL (p.aa.map (·.1)) (p.aa.map λx=>bif Nat.beq x.2 0 then kt else et) ((qS.mask m).rs.map uM)).getD t .none)) (a2.tmps.getD t undef) (putL O.r (p.aa.map (·.1)) ((p.aa.map (·.2)).map (D.tup [pd.1,pd.2]).tget) t);rcases WA (p.aa.map (·.1)) (p.aa.map λx=>bif Nat.beq x.2 0 then kt else et) ((qS.mask m).rs.map uM) (by simp) c4 t with e|⟨mJ,sI⟩|⟨i',y,mJ,sI,EC⟩
          .rw[e];trivial
          .rw[sI,CL _ _ _ _ mJ];have e3:((qS.mask m).rs.map uM).getD t .none=uM ((qS.mask m).rs.getD t .none):=by
            simp only[aF,cf];cases(qS.mask m).rs[t]?<;>rfl
           rw[e3];by_cases htw:t∈ws
           .have B4:=RZ t (uQ t htw);change cK ((qS.mask m).rs.getD t .none)=.none at B4;generalize (qS.mask m).rs.getD t .none=s' at B4;cases s'<;>simp[cK] at B4<;>trivial
           .have hr:=h.regs t;change aG C _ _ V hv (cK ((qS.mask m).rs.getD t .none)) _ (O.r t) at hr;rw[Sz.get t htw];generalize (qS.mask m).rs.getD t .none=s' at hr;cases s' with
            |yv=>trivial
            |opt gs s=>trivial
            |none=>trivial
            |fclo f c=>exact aG.mono' (.refl V) hc (λ_ _ e=>by cases e) hr
            |agg l=>exact aG.mono' (.refl V) hc (λ_ _ e=>by cases e) hr
            |dat t=>exact hr
            |obj j v=>exact aG.mono' (.refl V) hc (λ_ _ e=>by cases e) hr
            |ptr j v o=>exact aG.mono' (.refl V) hc (λ_ _ e=>by cases e) hr
            |eptr j v o q=>exact aG.mono' (.refl V) hc (λ_ _ e=>by cases e) hr
          .rw[EC];have aqp:i'<p.aa.length:=by have:=(eM.1 mJ).1;simpa using this
           rw[UU _ (p.aa.map (·.1)) _ i' t (qd c4) (by simp) mJ];obtain⟨xa,mU⟩:∃xa,p.aa[i']?=some xa:=⟨_,aW aqp⟩
           simp only[cf,mU,kM,aY] at mJ sI;subst mJ;subst sI;rw[arb xa (ka mU)];have hd:((p.aa.map (·.2)).map (D.tup [pd.1,pd.2]).tget).getD i' .none=(D.tup [pd.1,pd.2]).tget xa.2:=by simp[aF,mU]
           rw[hd];have h2x:xa.2<=1:=by
            rcases UL l oB (λx hx=>by cases hx) xa (ka mU) with h|h
            .cases h
            .exact h.1
           rcases(by omega:xa.2=0\/xa.2=1) with e0|e0<;>rw[e0]
           .exact bC
           .exact cG
         .have:(((qS.mask m).start (p.aa.map (·.1)) (p.aa.map λx=>bif Nat.beq x.2 0 then kt else et)).st ids).o j=.it kt et:=by rw[hj];exact LD
          rw[this];intro e;cases e
        have arc:=ai3 fU idx Sm;obtain⟨rest,td⟩:∃rest,(hZ fU idx++(D.tup [pd.1,pd.2])::rest).Perm (jh (.map fU)):=by
         obtain⟨rest,hr⟩:=aw6 (es:=fU) (idx:=idx++[i]) (by rw[IN];exact⟨h7,by simp,λa ha b hb e=>by simp at hb;subst hb;subst e;exact yx ha⟩) (λi' df=>by
          rcases dR.1 df with h|h
          .rw[h9];exact h8 i' h
          .simp at h;subst h;rw[h9];exact(eB.1 uL).1)
         rw[arc] at hr;exact⟨rest,by simpa using hr⟩
        have gp:=aK _ td;simp only[qh] at gp;split at gp
        case h_2=>cases gp
        rename_i ρ2 Lf;obtain⟨xi,dM⟩:=aaZ Lf;refine wpIn_mono (ihc rm _ q0 s9 rd w0 σ0 wr _ xi a2 w2 gx hC hY (λt ht=>SQ t (hwc t ht)) (Sz.size.trans vX) arJ dM) λee a3 w3 fW=>?_;have rE:=aa1 n6 (vD code s9) dM Lf fW;have conv:∀ee a3 w3,il C w0 σ0 ids fn s rm wr a2 (gQ ids p.next q0).out (gQ ids p.next q0).ex (.next ρ2) ee a3 w3->Exit.then (Code.roundsIn (FR rd) 0 C.P (.seq (.region i1 p.ops1 false) (.seq (.cond (.tmp p.mo) .skip (.exit p.out)) (.block p.next (.seq (.region i2 p.ops2 false) code)))) (il C w0 σ0 ids fn s rm wr a none [(p.out,(qS.mask m).kill ids J)] x0) kk) (il C w0 σ0 ids fn s rm wr a none [(p.out,(qS.mask m).kill ids J)] x0) ee a3 w3:=by
         intro ee a3 w3 ho;cases ee with
         |normal=>
          obtain⟨ρ3,T,f1,f2,f3,f4⟩:=ho;cases f1;refine ih (hZ fU idx++[.tup [pd.1,pd.2]]) (lo.map ρ2.o) a3 w3 (kS.trans ((Sz.mono SQ).trans f3)) ?_ (λys oE=>?_) (by simp at hlen ⊢;omega)
          .have uJ:Good C w0 σ0 (qS.st ids) ρ2 (λ_=>False) a3 w3:=by
            have:=f4.meet2 (x:=qS)
            rwa [BX T f2] at this
           obtain⟨σ3,zj,F7,fE⟩:=uJ;have Rz:=PC.ev_but _ _ _ ρ2 Lf rfl;refine⟨σ3,zj,F7,(fE.maskR m).env (Snap.noOpt _ _) (λt ht=>?_) (λj hj=>?_)⟩
           .have B4:=aqO t ht
            have cS:t∉(gQ ids p.next q0).pc.modR:=λfH=>by
                 have:=R3.1 t fH;have h2:aR (Nat.lor m (gQ ids p.next q0).mr) t=true:=by rw[gP,this,tV]
                 rw[FJ,B4] at h2;cases h2
            rw[Rz.r t cS]
            have sY:t∉p.aa.map (·.1):=λaT=>by
                 have:aR m t=true:=by
                  refine uQ t ?_;obtain⟨xa,mU,rfl⟩:=bZ.1 aT;rcases UL l oB (λx hx=>by cases hx) xa mU with h|⟨_,o,ho,hd⟩
                  .cases h
                  .exact da o (by rw[e2];exact fw _ ho) _ hd
                 rw[B4] at this;cases this
            show O.r t=putL O.r (p.aa.map (·.1)) _ t;rw[CL _ _ _ _ sY]
           .have hjd:p5 (dx ids qS.os j)=false:=hj;show bX (putL O.o lo (lo.map ρ2.o)) J _ j=ρ2.o j;by_cases B1:j=J
            .subst B1;rw[aN,Rz.o j (λfH=>acu (R3.2 j fH))];simp[Env.setO,aN]
            .rw[bA _ _ B1,u7];split
             .rfl
             .rename_i gU;have cS:j∉(gQ ids p.next q0).pc.modO:=λfH=>gU (by rw[<-pP];exact eT.2 ⟨R3.2 j fH,by rw[hjd];rfl⟩);rw[Rz.o j cS];simp only[Env.setO,bA _ _ B1];exact(UW _ _ _ _ gU).symm
          .have:=aK ((D.tup [pd.1,pd.2])::ys) (by simpa using oE);simp only[qh,Lf] at this;exact this
         |exit id=>obtain⟨ρ3,T,f1,_⟩:=ho;cases f1
         |ret=>
          cases rm with
          |false=>obtain⟨d,f1,_⟩:=ho;cases f1
          |true=>obtain⟨ρ3,T,f1,_⟩:=ho;cases f1
         |_=>exact ho.elim
        cases ee with
        |exit id=>
         simp only[Exit.inBlock] at rE;show if id=p.next then _ else _;split
         .rename_i cM;rw[if_pos cM] at rE;exact conv .normal a3 w3 rE
         .rename_i cM;rw[if_neg cM] at rE;exact conv (.exit id) a3 w3 rE
        |normal=>exact conv .normal a3 w3 rE
        |ret=>exact conv .ret a3 w3 rE
        |panic c=>exact fW.elim
        |goto l=>exact fW.elim
        |_=>exact fW.elim
 have hgq:Good C w0 σ0 (qS.st ids) O (λ_=>False) a w:=bO hg;obtain⟨V,own,hv,h⟩:=hgq;have bj:=h.objs J;have:(qS.st ids).o J=.it kt et:=LD;rw[this] at bj;obtain⟨kb,mb,arr,clock,fU,idx,h1,h2,h3,au,h4,h5,h6,h7,h8,h9,jr,uC⟩:=bj;have hρJ:O.o J=.tup [.list [],es]:=by
  rw[h6] at FQ jP;simp[D.tget] at FQ jP;rw[h6,FQ,<-jP]
 have yt:(O.put [] [] lo (lo.map O.o)).setO J (.tup [.list [],es])=O:=by
  rw[Env.put_self];show Env.mk _ _=_;have:bX O.o J (.tup [.list [],es])=O.o:=by
   funext j;rw[fp];split
   .rename_i e;rw[e];exact hρJ.symm
   .rfl
  rw[this]
 exact wpIn_loop_rounds _ (key ((jh es).length+1) [] (lo.map O.o) a w (.refl _ _) (by rw[yt];exact⟨V,own,hv,h.maskR m⟩) (λys oE=>apC ys oE) (by simp))
def al3 {N:Nat}(ej:gN C Z)(hR:Pd C n ids Z R):∀(k:Nat) (c:Code),sizeOf c<k->xJ C Z fn s n ids R N c:=by
 intro k;refine Nat.rec (λc h=>absurd h (Nat.not_lt_zero _)) (λk IH=>?_) k;intro c hc;cases c with
 |skip=>
  intro rm S r h rd w0 σ0 wr O x a w gx hC hY gA hn hg he;simp only[comp,aY] at h;subst h;simp only[PC.ev,aY] at he;subst he;exact wpIn_skip ⟨O,S,rfl,rfl,.refl _ _,hg⟩
 |region id ops draw=>
  intro rm S r h rd w0 σ0 wr O x a w gx hC hY gA hn hg he;simp only[comp,aA] at h;obtain⟨q,hq,rfl⟩:=h;simp only[PC.ev,aA] at he;obtain⟨O',hr,rfl⟩:=he;exact hR id ops draw S q hq rd w0 σ0 O O' a w _ hC hY hn hg hr (λa' w' eu lC=>⟨O',q.1,rfl,rfl,eu.mono (λt ⟨o,h1,h2⟩=>gA t (Af.2 ⟨o,h1,h2⟩)),lC⟩)
 |seq c1 c2=>
  have wg:=IH c1 (by simp at hc;omega);have wh:=IH c2 (by simp at hc;omega);intro rm S r h rd w0 σ0 wr O x a w gx hC hY gA hn hg he;have jc:∀t,t∈cD c1->wr t:=λt ht=>gA t (jn _ ht);have da:∀t,t∈cD c2->wr t:=λt ht=>gA t (jG _ ht);simp only[comp,az] at h;obtain⟨q,hq,h⟩:=h;split at h
  .rename_i kR;cases h;refine wpIn_seq (wpIn_mono (wg rm S _ hq rd w0 σ0 wr O x a w gx hC hY jc hn hg he) λe a' w' ho=>?_);cases e with
   |normal=>obtain⟨_,_,_,h2,_⟩:=ho;rw[kR] at h2;cases h2
   |_=>exact ho
  .rename_i S1 kR;simp only[aA] at h;obtain⟨p,hp,rfl⟩:=h;simp only[PC.ev] at he
   have key:∀x1,q.pc.ev Z N O=some x1->(match some x1 with|some (.next O')=>p.pc.ev Z N O'|y=>y)=some x->(Code.seq c1 c2).wpIn (FR rd) 0 C.P (il C w0 σ0 ids fn s rm wr a p.out (q.ex++p.ex) x) a w:=by
      intro x1 h1 h2;refine wpIn_seq (wpIn_mono (wg rm S _ hq rd w0 σ0 wr O x1 a w gx hC hY jc hn hg h1) λe a' w' ho=>?_);have other:∀{e:Exit},e≠.normal->il C w0 σ0 ids fn s rm wr a q.out q.ex x1 e a' w'->x1=x->il C w0 σ0 ids fn s rm wr a p.out (q.ex++p.ex) x e a' w':=by
       intro e au ho hx;subst hx;exact ho.mono (λy hy=>jn _ hy) (.refl _ _) (λe=>absurd e au)
      cases e with
      |normal=>
       obtain⟨ρ1,S2,e1,e2,dX,iv⟩:=ho;subst e1;rw[kR] at e2;cases e2;simp only at h2;refine wpIn_mono (wh rm S1 _ hp rd w0 σ0 wr ρ1 x a' w' gx hC hY da (dX.size.trans hn) iv h2) λe a2 w2 fJ=>?_;exact fJ.mono (λy hy=>jG _ hy) dX (λ_=>rfl)
      |exit id=>
       refine other (by simp) ho ?_;obtain⟨ρ1,S2,e1,_⟩:=ho;subst e1;simpa using h2
      |ret=>
       refine other (by simp) ho ?_;cases rm with
       |false=>obtain⟨d,e1,_⟩:=ho;subst e1;simpa using h2
       |true=>obtain⟨ρ1,S2,e1,_⟩:=ho;subst e1;simpa using h2
      |_=>exact ho.elim
   cases h1:q.pc.ev Z N O with
   |none=>rw[h1] at he;simp at he
   |some x1=>rw[h1] at he;exact key x1 h1 he
 |cond c c1 c2=>
  have wg:=IH c1 (by simp at hc;omega);have wh:=IH c2 (by simp at hc;omega);intro rm S r h rd w0 σ0 wr O x a w gx hC hY gA hn hg he;have jc:∀t,t∈cD c1->wr t:=λt ht=>gA t (jn _ ht);have da:∀t,t∈cD c2->wr t:=λt ht=>gA t (jG _ ht);simp only[comp] at h;split at h
  case h_2=>cases h;exact absurd he (nw _ _ _ _)
  rename_i e hu;simp only[az,aA] at h;obtain⟨q,hq,p,hp,rfl⟩:=h;have hb:∃b,a.eval c=.bool b/\e.ev O=.v (.bool b):=by
   obtain⟨V,own,hv,hi⟩:=hg;have:=cw (gs:=[]) hi hC rfl hu;generalize a.eval c=v at this;generalize e.ev O=d at this;cases this with|bool b=>exact⟨b,rfl,rfl⟩
  obtain⟨b,gp,de⟩:=hb;have sX:=vD c1 hq;have FI:=vD c2 hp;have main:∀(o:Option Snap) (lr lo:List Nat) (rx:Res2),rx=⟨.ite e lr lo q.pc p.pc,o,q.ex++p.ex,Nat.lor q.mr p.mr,j3 q.mo p.mo⟩->
        (∀M,o=some M->lr=kW M (Nat.lor q.mr p.mr)/\lo=jU ids M (j3 q.mo p.mo))->
        (∀S1 ρ1 a w,q.out=some S1->Good C w0 σ0 (S1.st ids) ρ1 (λ_=>False) a w->∃M,o=some M/\Good C w0 σ0 (M.st ids) ρ1 (λ_=>False) a w)->
        (∀S1 ρ1 a w,p.out=some S1->Good C w0 σ0 (S1.st ids) ρ1 (λ_=>False) a w->∃M,o=some M/\Good C w0 σ0 (M.st ids) ρ1 (λ_=>False) a w)->
        rx.pc.ev Z N O=some x->(Code.cond c c1 c2).wpIn (FR rd) 0 C.P (il C w0 σ0 ids fn s rm wr a rx.out rx.ex x) a w:=by
   intro o lr lo rx hrx hl tc oB bK;subst hrx;simp only[PC.ev,de,D.b_bool] at bK;have fin:∀(ci:Code) (qi:Res2) (xi:Out),(∀y,y∈qi.ex->y∈q.ex++p.ex)->(∀t,t∈qi.pc.modR->aR (Nat.lor q.mr p.mr) t=true)->(∀j,j∈qi.pc.modO->j∈j3 q.mo p.mo)->
    (∀S1 ρ1 a w,qi.out=some S1->Good C w0 σ0 (S1.st ids) ρ1 (λ_=>False) a w->∃M,o=some M/\Good C w0 σ0 (M.st ids) ρ1 (λ_=>False) a w)->
    qi.pc.ev Z N O=some xi->(match some xi with|some (.next O')=>some (Out.next (O.join lr lo O'))|y=>y)=some x->
    ci.wpIn (FR rd) 0 C.P (il C w0 σ0 ids fn s rm wr a qi.out qi.ex xi) a w->ci.wpIn (FR rd) 0 C.P (il C w0 σ0 ids fn s rm wr a o (q.ex++p.ex) x) a w:=by
        intro ci qi xi hex l9 mS kR dM hx hwp;refine wpIn_mono hwp λee a' w' ho=>?_;have other:ee≠.normal->xi=x->il C w0 σ0 ids fn s rm wr a o (q.ex++p.ex) x ee a' w':=by
         intro au kT;subst kT;exact ho.mono hex (.refl _ _) (λe=>absurd e au)
        cases ee with
        |normal=>
         obtain⟨ρ1,S2,e1,e2,dX,iv⟩:=ho;subst e1;simp only[aY] at hx;subst hx;obtain⟨M,hM,uJ⟩:=kR S2 ρ1 a' w' e2 iv;obtain⟨l1,l2⟩:=hl M hM;subst l1 l2;exact⟨_,M,rfl,hM,dX,uJ.joined (PC.ev_but qi.pc O _ ρ1 dM rfl) l9 mS⟩
        |exit id=>
         refine other (by simp) ?_;obtain⟨ρ1,S2,e1,_⟩:=ho;subst e1;simpa using hx
        |ret=>
         refine other (by simp) ?_;cases rm with
         |false=>obtain⟨d,e1,_⟩:=ho;subst e1;simpa using hx
         |true=>obtain⟨ρ1,S2,e1,_⟩:=ho;subst e1;simpa using hx
        |_=>exact ho.elim
   refine wpIn_cond gp ?_;cases b with
   |true=>
    simp only[zyy] at bK;cases dM:q.pc.ev Z N O with
    |none=>rw[dM] at bK;simp at bK
    |some xi=>
     rw[dM] at bK;refine fin c1 q xi (λy hy=>jn _ hy) (λt ht=>?_) (λj hj=>rN.2 (.inl (sX.2 j hj))) tc dM bK (wg rm S _ hq rd w0 σ0 wr O xi a w gx hC hY jc hn hg dM);rw[gP,sX.1 t ht];rfl
   |false=>
    simp only[zyx] at bK;cases dM:p.pc.ev Z N O with
    |none=>rw[dM] at bK;simp at bK
    |some xi=>
     rw[dM] at bK;refine fin c2 p xi (λy hy=>jG _ hy) (λt ht=>?_) (λj hj=>rN.2 (.inr (FI.2 j hj))) oB dM bK (wh rm S _ hp rd w0 σ0 wr O xi a w gx hC hY da hn hg dM);rw[gP,FI.1 t ht,tV]
  have tc:∀S1 ρ1 a w,q.out=some S1->Good C w0 σ0 (S1.st ids) ρ1 (λ_=>False) a w->∃M,mZ q.out p.out=some M/\Good C w0 σ0 (M.st ids) ρ1 (λ_=>False) a w:=by
   intro S1 ρ1 a w e1 g1;rw[e1];obtain⟨M,hM⟩:=@afk S1 p.out;exact⟨M,hM,afi g1 hM⟩
  have oB:∀S1 ρ1 a w,p.out=some S1->Good C w0 σ0 (S1.st ids) ρ1 (λ_=>False) a w->∃M,mZ q.out p.out=some M/\Good C w0 σ0 (M.st ids) ρ1 (λ_=>False) a w:=by
   intro S1 ρ1 a w e1 g1;rw[e1];obtain⟨M,hM⟩:=@afl q.out S1;exact⟨M,hM,afj g1 hM⟩
  cases hm:mZ q.out p.out with
  |none=>
   rw[hm] at tc oB;simp only[hm] at he ⊢;exact main none [] [] _ rfl (λM e=>by cases e) tc oB he
  |some M=>
   rw[hm] at tc oB;simp only[hm] at he ⊢;exact main (some M) _ _ _ rfl (λM' e=>by cases e;exact⟨rfl,rfl⟩) tc oB he
 |block id c1=>
  have wg:=IH c1 (by simp at hc;omega);intro rm S r h rd w0 σ0 wr O x a w gx hC hY gA hn hg he;simp only[comp] at h;cases cM:Nat.beq id cR<;>simp only[cM,zyy,zyx] at h
  case true=>cases h;exact absurd he (nw _ _ _ _)
  have Lr:id≠cR:=λe=>by subst e;simp at cM
  simp only[aA] at h;obtain⟨q,hq,rfl⟩:=h;obtain⟨xi,dM⟩:=aaZ he;exact wpIn_block (wpIn_mono (wg rm S _ hq rd w0 σ0 wr O xi a w gx hC hY gA hn hg dM) λe a' w' fW=>aa1 Lr (vD c1 hq) dM he fW)
 |loop c1=>
  have wg:=IH c1 (by simp at hc;omega);intro rm S r h rd w0 σ0 wr O x a w gx hC hY gA hn hg he;rw[abp] at h;split at h
  .rename_i qb F0;obtain⟨p,code,ws⟩:=qb;unfold y5 at F0;split at F0
   case h_2=>cases F0
   rename_i cx cy ck cz cc;simp only[aA] at F0;obtain⟨p',aT,ep⟩:=F0;cases ep;exact auf aT (IH _ (by simp at hc;omega)) h gx hC hY gA hn hg he
  split at h
  case h_2=>cases h;exact absurd he (nw _ _ _ _)
  rename_i q hq;cases h;obtain⟨hs,BX,bO⟩:=Gm (C:=C) (w0:=w0) (σ0:=σ0) (ids:=ids) 8 hq;have sX:=vD c1 hs;simp only[PC.ev] at he
  have yu:Good C w0 σ0 (q.1.st ids) (O.put (kW q.1 q.2.mr) ((kW q.1 q.2.mr).map O.r) (jU ids q.1 q.2.mo) ((jU ids q.1 q.2.mo).map O.o)) (λ_=>False) a w:=by
   exact Good.joined (bO hg) (.refl O q.2.pc.modR q.2.pc.modO) sX.1 sX.2
  have key:∀(k:Nat) (ρ1:Env) (a':Act) (w:World),SameBut wr a a'->jf (q.2.pc.ev Z N) O (kW q.1 q.2.mr) (jU ids q.1 q.2.mo) k ((kW q.1 q.2.mr).map ρ1.r) ((jU ids q.1 q.2.mo).map ρ1.o)=some x->
        Good C w0 σ0 (q.1.st ids) (O.join (kW q.1 q.2.mr) (jU ids q.1 q.2.mo) ρ1) (λ_=>False) a' w->Code.roundsIn (FR rd) 0 C.P c1 (il C w0 σ0 ids fn s rm wr a none q.2.ex x) k a' w:=by
   intro k
   induction k with
   |zero=>intro ρ1 a' w hn hl hg;simp[jf] at hl
   |succ k ih=>
    intro ρ1 a' w kS hl hg;rw[roundsIn_succ];simp only[jf] at hl;change (match q.2.pc.ev Z N (O.join (kW q.1 q.2.mr) (jU ids q.1 q.2.mo) ρ1) with|some (.next O')=>_|y=>y)=some x at hl;cases dM:q.2.pc.ev Z N (O.join (kW q.1 q.2.mr) (jU ids q.1 q.2.mo) ρ1) with
    |none=>rw[dM] at hl;simp at hl
    |some xi=>
     rw[dM] at hl;refine wpIn_mono (wg rm _ _ hs rd w0 σ0 wr _ xi a' w gx hC hY gA (kS.size.trans hn) hg dM) λe a2 w' fW=>?_;have other:e≠.normal->xi=x->il C w0 σ0 ids fn s rm wr a none q.2.ex x e a2 w':=by
         intro au kT;subst kT;exact fW.mono (λy hy=>hy) kS (λe=>absurd e au)
     cases e with
     |normal=>
      obtain⟨ρ2,S2,e1,e2,dX,iv⟩:=fW;subst e1;simp only at hl;refine ih ρ2 a2 w' (kS.trans dX) hl ?_
      have uJ:Good C w0 σ0 (q.1.st ids) ρ2 (λ_=>False) a2 w':=by
       have:=iv.meet2 (x:=q.1)
       rwa [BX S2 e2] at this
      refine uJ.joined (mr':=kW q.1 q.2.mr++q.2.pc.modR) (mo':=jU ids q.1 q.2.mo++q.2.pc.modO) ?_ (λt ht=>?_) (λj hj=>?_)
      .exact((Env.but.join O ρ1 _ _).mono (λt ht=>jn _ ht) (λt ht=>jn _ ht)).trans
        ((PC.ev_but q.2.pc _ _ ρ2 dM rfl).mono (λt ht=>jG _ ht) (λt ht=>jG _ ht))
      .exact(dR.1 ht).elim Mh (sX.1 t)
      .exact(dR.1 hj).elim Ct (sX.2 j)
     |exit id=>
      refine other (by simp) ?_;obtain⟨ρ1,S2,e1,_⟩:=fW;subst e1;simpa using hl
     |ret=>
      refine other (by simp) ?_;cases rm with
      |false=>obtain⟨d,e1,_⟩:=fW;subst e1;simpa using hl
      |true=>obtain⟨ρ1,S2,e1,_⟩:=fW;subst e1;simpa using hl
     |_=>exact fW.elim
  exact wpIn_loop_rounds N (key N O a w (.refl _ _) he yu)
 |exit id=>
  intro rm S r h rd w0 σ0 wr O x a w gx hC hY gA hn hg he;simp only[comp] at h;cases cM:Nat.beq id cR<;>simp only[cM,zyy,zyx] at h
  case true=>cases h;exact absurd he (nw _ _ _ _)
  cases h;simp only[PC.ev,aY] at he;subst he;exact wpIn_exit ⟨O,S,rfl,λe=>by subst e;simp at cM,by simp,.refl _ _,hg⟩
 |ret=>
  intro rm S r h rd w0 σ0 wr O x a w gx hC hY gA hn hg he;simp only[comp] at h;cases rm<;>simp only[zyy,zyx] at h
  case true=>
   cases h;simp only[PC.ev,aY] at he;subst he;exact wpIn_ret ⟨O,S,rfl,by simp,.refl _ _,hg⟩
  split at h
  .rename_i e Sv;cases h;simp only[PC.ev,aY] at he;subst he;obtain⟨V,own,hv,hi⟩:=hg;exact wpIn_ret ⟨_,rfl,Inv.retD hC (λ_=>rfl) (gx rfl).2 Sv _ hi rfl,.refl _ _⟩
  .cases h;exact absurd he (nw _ _ _ _)
 |rangeFunc g ps ca cb=>exact awi ej (IH ca (by simp at hc;omega)) (IH cb (by simp at hc;omega))
 |_=>intro rm S r h rd w0 σ0 wr O x a w gx hC hY gA hn hg he;simp only[comp,aY] at h;subst h;exact absurd he (nw _ _ _ _)
def al0 {N:Nat}(ej:gN C Z)(hR:Pd C n ids Z R)(c:Code):xJ C Z fn s n ids R N c:=al3 ej hR _ c (Nat.lt_succ_self _)
end
end Cx
