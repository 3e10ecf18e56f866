/-
  Code: sequences, choices, blocks, loops.
-/
import Derived.LoopNIn
import Derived.Test.YtibbcfbmjlehcaaGreatDoorBAE
import Derived.LoopN
set_option linter.defProp false
set_option linter.unusedSimpArgs false
set_option linter.unusedVariables false
namespace Cx
open Go Go.RowKit
def aR (m t:Nat):Bool:= !Nat.beq (Nat.land 1 (Nat.shiftRight m t)) 0
def xQ (m t:Nat):aR m t=m.testBit t:=by
 unfold aR Nat.testBit;show(!Nat.beq (1&&& (m>>>t)) 0)=((1&&& (m>>>t))!=0)
 generalize 1&&& (m>>>t)=x;cases x<;>rfl
def ij (t:Nat):Nat:=Nat.shiftLeft 1 t
def sD (t:Nat):aR (ij t) t=true:=by
 rw[xQ];show(1<<<t).testBit t=true;simp[Nat.testBit_shiftLeft]
def gN (m k t:Nat):aR (Nat.lor m k) t=(aR m t||aR k t):=by
 simp only[xQ];exact Nat.testBit_or m k t
def PI.mask:PI->Nat
 |.setR t _=>ij t|.call _ t _ _=>ij t|.callc _ t _ _=>ij t|_=>0
def Mi:List PI->Nat
 |[]=>0
 |p::l=>Nat.lor p.mask (Mi l)
def PI.objs:PI->List Nat
 |.setO j _=>[j]|.mcall j _ _=>[j]|_=>[]
def fH (l:List Nat)(x:Nat):Bool:=l.any (Nat.beq x)
def j0 (a b:List Nat):List Nat:=a.foldl (λacc x=>bif fH acc x then acc else x::acc) b
def afH (l:List PI):List Nat:=l.foldl (λacc p=>j0 p.objs acc) []
def rG (l:List Nat)(x:Nat):fH l x=true↔x∈l:=by
 unfold fH;rw[xu];constructor
 .rintro⟨y,hy,h⟩;rw[ay h];exact hy
 .intro h;exact⟨x,h,j9 x⟩
def rH {x:Nat}:∀{a b:List Nat},x∈j0 a b↔x∈a\/x∈b
 |[],b=>by simp[j0]
 |y::a,b=>by
  have ih:=@rH x a (bif fH b y then b else y::b);have e:j0 (y::a) b=j0 a (bif fH b y then b else y::b):=rfl;rw[e,ih];cases hb:fH b y
  .simp[or_assoc,or_left_comm]
  .have:=(rG b y).1 hb;simp only[zyy,cA];constructor
   .rintro(h|h)
    .exact .inl (.inr h)
    .exact .inr h
   .rintro((h|h)|h)
    .subst h;exact .inr this
    .exact .inl h
    .exact .inr h
def auk {x:Nat}(l:List PI)(h:x∈l.flatMap PI.modO):x∈afH l:=by
 have key:∀(l:List PI) (acc:List Nat),(x∈l.flatMap PI.modO\/x∈acc)->x∈l.foldl (λacc p=>j0 p.objs acc) acc:=by
  intro l
  induction l with
  |nil=>intro acc h;simpa using h
  |cons p l ih=>
   intro acc h;refine ih _ ?_;rw[vk,dM] at h;rcases h with(h|h)|h
   .refine .inr (rH.2 (.inl ?_));cases p<;>simp_all [PI.modO,PI.objs]
   .exact .inl h
   .exact .inr (rH.2 (.inr h))
 exact key l [] (.inl h)
def afd {t:Nat}:∀(l:List PI),t∈l.flatMap PI.modR->aR (Mi l) t=true
 |[],h=>by simp at h
 |p::l,h=>by
  rw[vk,dM] at h;simp only[Mi,gN,kE];rcases h with h|h
  .left;cases p<;>simp[PI.modR] at h<;>subst h<;>exact sD _
  .exact .inr (afd l h)
structure Res2 where
 pc:PC
 out:Option Snap
 ex:List (Nat×Snap)
 mr:Nat
 mo:List Nat
 deriving Inhabited
def na:Option Snap->Option Snap->Option Snap
 |none,x=>x
 |x,none=>x
 |some a,some b=>some (a.meet b)
def pX (id:Nat):List (Nat×Snap)->Option Snap->Option Snap
 |[],acc=>acc
 |x::l,acc=>pX id l (bif Nat.beq x.1 id then na acc (some x.2) else acc)
def iter (step:Snap->Option Res2):Nat->Snap->Option (Snap×Res2)
 |0,_=>none
 |k+1,S=>(step S).bind λr=>
  match r.out with
  |none=>some (S,r)
  |some T=>bif (S.meet T).beq S then some (S,r) else iter step k (S.meet T)
def kV (S:Snap)(m:Nat):List Nat:=(List.range S.rs.length).filter λt=>aR m t&& !isNone (cJ (S.rs.getD t .none))
def jR (ids:List Nat)(S:Snap)(l:List Nat):List Nat:=l.filter λj=> !pS (dv ids S.os j)
def hZ:Res2:=⟨.is [Ir],none,[],0,[]⟩
def nu (Z:aT)(N:Nat)(O:Env)(x:Out):hZ.pc.ev Z N O≠some x:=by
 intro h;simp[hZ,PC.ev,PI.runs,PI.run,Ir,PE.ev,D.b_bool] at h
def nv:(∀t,t∈hZ.pc.modR->aR hZ.mr t=true)/\∀j,j∈hZ.pc.modO->j∈hZ.mo:=by
 constructor<;>intro t h<;>simp[hZ,PC.modR,PC.modO,PI.modR,PI.modO,Ir] at h
def cD:Code->List Nat
 |.region _ ops _=>ops.toList.filterMap (·.dst)
 |.seq a b=>cD a++cD b
 |.cond _ a b=>cD a++cD b
 |.block _ a=>cD a
 |.loop a=>cD a
 |_=>[]
def zc (l:List Nat):Nat:=l.foldr (λt m=>Nat.lor (ij t) m) 0
def uR (m:Nat):Nat->List Sh->List Sh
 |_,[]=>[]
 |t,s::l=>(bif aR m t then .none else s)::uR m (t+1) l
def Snap.mask (m:Nat)(S:Snap):Snap:=⟨uR m 0 S.rs,S.os⟩
def uJ:Sh->Sh
 |.yv=>.none
 |s=>s
def tG:List Nat->List Ty->List Sh->List Sh
 |p::ps,y::ys,l=>tG ps ys (l.set p (.dat y))
 |_,_,l=>l
def Snap.start (ps:List Nat)(ys:List Ty)(S:Snap):Snap:=⟨tG ps ys (S.rs.map uJ),S.os⟩
def ae6 (ids:List Nat)(l:List Snap)(mo:List Nat):List Nat:=mo.filter λj=>l.any λS=> !pS (dv ids S.os j)
def awN (wm:Nat)(ra rb:Res2):Res2:=
 let m:=Nat.lor wm (Nat.lor ra.mr rb.mr)
 ⟨.seq ra.pc rb.pc,rb.out.map (Snap.mask m),rb.ex.map (λx=>(x.1,x.2.mask m)),m,j0 ra.mo rb.mo⟩
def gO (ids:List Nat)(id:Nat)(r:Res2):Res2:=
    match pX id r.ex r.out with
    |some M=>⟨.block id (kV M r.mr) (jR ids M r.mo) r.pc,some M,r.ex.filter λx=> !Nat.beq x.1 id,r.mr,r.mo⟩
    |none=>⟨.block id [] [] r.pc,none,r.ex.filter λx=> !Nat.beq x.1 id,r.mr,r.mo⟩
def wu:List (Nat×Nat)->Nat->Option Nat
 |[],_=>none
 |x::l,t=>bif Nat.beq x.1 t then some x.2 else wu l t
def lN (pr:Nat):List Oper->List (Nat×Nat)->Option (List (Nat×Nat))
 |[],acc=>some acc
 |o::l,acc=>
  match o.dst,o.guard with
  |some d,none=>
   bif Nat.beq d pr||(wu acc d).isSome then none else
   match o.op with
   |.extract (.tmp t) i=>bif Nat.beq t pr&&Nat.ble i 1 then lN pr l (acc++[(d,i)]) else none
   |.assign (.tmp t)=>(wu acc t).bind λi=>lN pr l (acc++[(d,i)])
   |.move (.tmp t)=>(wu acc t).bind λi=>lN pr l (acc++[(d,i)])
   |_=>none
  |_,_=>none
structure MP where
 it:Nat
 nx:Nat
 mo:Nat
 out:Nat
 next:Nat
 pr:Nat
 ops1:Array Oper
 ops2:Array Oper
 aa:List (Nat×Nat)
 deriving Inhabited
def Cr (x y:Code)(k:Nat)(z:Code):Option MP:=
 match x,y,z with
 |.region _ ops1 false,.cond (.tmp mo) .skip (.exit out),.region _ ops2 false=>
  match ops1.toList,ops2.toList with
  |[o1,o2],o3::l=>
   match o1.dst,o1.guard,o1.op,o2.dst,o2.guard,o2.op,o3.dst,o3.guard,o3.op with
   |some nx,none,.next (.tmp it) false,some mo',none,.extract (.tmp nx') 0,some pr,none,.entry (.tmp it')=>
    bif Nat.beq mo mo'&&Nat.beq nx nx'&&Nat.beq it it'&& !Nat.beq it nx&& !Nat.beq it mo&& !Nat.beq it pr&& !Nat.beq nx mo&& !Nat.beq out cP&& !Nat.beq k cP then
     (lN pr l []).map λaa=>⟨it,nx,mo,out,k,pr,ops1,ops2,aa⟩
    else none
   |_,_,_,_,_,_,_,_,_=>none
  |_,_=>none
 |_,_,_=>none
def y4:List Nat->Nat->List Ob->List Ob
 |i::is,J,o::os=>(bif Nat.beq i J then .dead else o)::y4 is J os
 |_,_,os=>os
def Snap.kill (ids:List Nat)(J:Nat)(S:Snap):Snap:=⟨S.rs,y4 ids J S.os⟩
def aeq (J:Nat)(kt et:Ty)(ids:List Nat)(p:MP)(m:Nat)(S:Snap):Bool:=
 Sh.beq (S.rs.getD p.it .none) (.obj J 0)&&Ob.beq (dv ids S.os J) (.it kt et)&& !aR m p.it
def Cs (ids:List Nat)(n:Nat)(p:MP)(ws:List Nat)(f:Snap->Option Res2)(S:Snap):Option Res2:=
 match cJ (S.rs.getD p.it .none) with
 |.obj J 0=>
  match dv ids S.os J with
  |.it kt et=>
   let ps:=p.aa.map (·.1)
   let ys:=p.aa.map λx=>bif Nat.beq x.2 0 then kt else et
   let m:=zc ws
   match iter (λS=>(f ((S.mask m).start ps ys)).map (gO ids p.next)) 8 S with
   |some r=>
    bif r.2.ex.isEmpty&& !fH r.2.mo J&&aeq J kt et ids p m r.1&&gX ps&&ps.all (λt=>Nat.blt t n)&&Nat.blt p.nx n&&Nat.blt p.mo n&&Nat.blt p.pr n&&Nat.beq (Nat.lor m r.2.mr) m then
       some ⟨.seq (.meach J ps (p.aa.map (·.2)) (jR ids r.1 r.2.mo) r.2.pc) (.exit p.out),none,[(p.out,(r.1.mask m).kill ids J)],0,r.2.mo⟩
    else some hZ
   |none=>some hZ
  |_=>some hZ
 |_=>some hZ
def comp (C:Ctx)(fn:Func)(s:Sig)(n:Nat)(ids:List Nat)(R:Array Oper->Bool->Snap->Option (Snap×List PI)):Bool->Code->Snap->Option Res2
 |_,.skip,S=>some ⟨.skip,some S,[],0,[]⟩
 |_,.region _ ops draw,S=>(R ops draw S).map λr=>⟨.is r.2,some r.1,[],Mi r.2,afH r.2⟩
 |rm,.seq a b,S=>(comp C fn s n ids R rm a S).bind λr=>
  match r.out with
  |none=>some r
  |some S1=>(comp C fn s n ids R rm b S1).map λq=>⟨.seq r.pc q.pc,q.out,r.ex++q.ex,Nat.lor r.mr q.mr,j0 r.mo q.mo⟩
 |rm,.cond c a b,S=>
  match use C (S.st ids) [] c with
  |some (.bool,e)=>
   (comp C fn s n ids R rm a S).bind λr=>(comp C fn s n ids R rm b S).map λq=>
     match na r.out q.out with
     |some M=>⟨.ite e (kV M (Nat.lor r.mr q.mr)) (jR ids M (j0 r.mo q.mo)) r.pc q.pc,some M,r.ex++q.ex,Nat.lor r.mr q.mr,j0 r.mo q.mo⟩
     |none=>⟨.ite e [] [] r.pc q.pc,none,r.ex++q.ex,Nat.lor r.mr q.mr,j0 r.mo q.mo⟩
  |_=>some hZ
 |rm,.block id a,S=>bif Nat.beq id cP then some hZ else(comp C fn s n ids R rm a S).map (gO ids id)
 |rm,.loop (.seq x (.seq y (.block k (.seq z code)))),S=>
  (match Cr x y k z with
  |some p=>Cs ids n p (cD x++(cD y++(cD z++cD code))) (λS=>comp C fn s n ids R rm code S) S
  |none=>
  match iter (λS=>comp C fn s n ids R rm (.seq x (.seq y (.block k (.seq z code)))) S) 8 S with
  |some r=>some ⟨.loop (kV r.1 r.2.mr) (jR ids r.1 r.2.mo) r.2.pc,none,r.2.ex,r.2.mr,r.2.mo⟩
  |none=>some hZ)
 |rm,.loop a,S=>
  match iter (λS=>comp C fn s n ids R rm a S) 8 S with
  |some r=>some ⟨.loop (kV r.1 r.2.mr) (jR ids r.1 r.2.mo) r.2.pc,none,r.2.ex,r.2.mr,r.2.mo⟩
  |none=>some hZ
 |_,.exit id,S=>bif Nat.beq id cP then some hZ else some ⟨.exit id,none,[(id,S)],0,[]⟩
 |rm,.ret,S=>
  bif rm then some ⟨.exit cP,none,[(cP,S)],0,[]⟩ else
  match zL C fn s (S.st ids) with
  |some e=>some ⟨.ret e,none,[],0,[]⟩
  |none=>some hZ
 |rm,.rangeFunc g ps a b,S=>
  match rm,C.yl,use C (S.st ids) [] g with
  |false,none,some (.fn aa r,e)=>
   match oH aa r with
   |some ys=>
    match iter (λS=>(comp C fn s n ids R true a (S.start ps.toList ys)).bind λra=>
          match ra.out,ra.ex with
          |some S1,[]=>(comp C fn s n ids R true b S1).map (awN (zc (ps.toList++cD a++cD b)) ra)
          |_,_=>none) 8 S with
    |some r=>
     bif Nat.beq ys.length ps.size&&gX ps.toList&&ps.toList.all (λp=>Nat.blt p n)&&Nat.ble r.1.rs.length n then
           some ⟨.seq (.is [.callc [] n e []]) (.each (.r n) ps.toList (ae6 ids (r.1::r.2.ex.map (·.2)) r.2.mo) ((pX cP r.2.ex none).bind λM=>zL C fn s (M.st ids)) r.2.pc),
            some r.1,r.2.ex.filter (λx=> !Nat.beq x.1 cP),ij n,r.2.mo⟩
     else some hZ
    |none=>some hZ
   |none=>some hZ
  |_,_,_=>some hZ
 |_,_,_=>some hZ
termination_by structural _ c=>c
def za:Code->Option (MP×Code×List Nat)
 |.seq x (.seq y (.block k (.seq z code)))=>(Cr x y k z).map λp=>(p,code,cD x++(cD y++(cD z++cD code)))
 |_=>none
def abv (C:Ctx)(fn:Func)(s:Sig)(n:Nat)(ids:List Nat)(R:Array Oper->Bool->Snap->Option (Snap×List PI))(rm:Bool)(a:Code)(S:Snap):comp C fn s n ids R rm (.loop a) S=
 match za a with
 |some q=>Cs ids n q.1 q.2.2 (λS=>comp C fn s n ids R rm q.2.1 S) S
 |none=>
  match iter (λS=>comp C fn s n ids R rm a S) 8 S with
  |some r=>some ⟨.loop (kV r.1 r.2.mr) (jR ids r.1 r.2.mo) r.2.pc,none,r.2.ex,r.2.mr,r.2.mo⟩
  |none=>some hZ:=by
 by_cases h:∃x y k z code,a=.seq x (.seq y (.block k (.seq z code)))
 .obtain⟨x,y,k,z,code,rfl⟩:=h
  conv=>lhs;unfold comp
  simp only[za];cases Cr x y k z<;>rfl
 .have e:za a=none:=by
   unfold za;split
   .rename_i x y k z code;exact absurd ⟨x,y,k,z,code,rfl⟩ h
   .rfl
  rw[e];rw[comp];intro x y k z code e;exact h ⟨x,y,k,z,code,e⟩
def subs:Code->List Code
 |.seq a b=>.seq a b::(subs a++subs b)
 |.cond c a b=>.cond c a b::(subs a++subs b)
 |.block i a=>.block i a::subs a
 |.loop a=>.loop a::subs a
 |.rangeFunc g ps a b=>.rangeFunc g ps a b::(subs a++subs b)
 |c=>[c]
def axt (c:Code):c∈subs c:=by cases c<;>simp[subs]
def aGJ {a code:Code}{p:MP}{ws:List Nat}(h:za a=some (p,code,ws)):code∈subs a:=by
 unfold za at h;split at h
 .simp only[aB] at h;obtain⟨q,_,e⟩:=h;cases e;simp[subs,axt]
 .cases h
def Pp (C:Ctx)(n:Nat)(ids:List Nat)(Z:aT)(R:Array Oper->Bool->Snap->Option (Snap×List PI)):Prop:=
 ∀(id:Nat) (ops:Array Oper) (draw:Bool) (S:Snap) (r:Snap×List PI),R ops draw S=some r->
  ∀(rd:Option Nat) (w0:World) (σ0:Base) (O O':Env) (a:Act) (w:World) (Q:Exit->Act->World->Prop),CtxOK C σ0->tZ C Z w0 σ0->a.tmps.size=n->Good C w0 σ0 (S.st ids) O (λ_=>False) a w->PI.runs Z r.2 O=some O'->
   (∀a' w',SameBut (Bx ops) a a'->Good C w0 σ0 (r.1.st ids) O' (λ_=>False) a' w'->Q .normal a' w')->(Code.region id ops draw).wpIn (FR rd) 0 C.P Q a w
section
variable {C:Ctx} {O O':Env} {V:Im} {own:Nat->Option Nat} {hv:Nat->Value} {w0:World} {σ0:Base} {A:Nat->Prop} {a:Act} {w:World} {Z:aT} {n:Nat} {ids:List Nat} {fn:Func} {s:Sig}
 {R:Array Oper->Bool->Snap->Option (Snap×List PI)}
def ic (C:Ctx)(w0:World)(σ0:Base)(ids:List Nat)(fn:Func)(s:Sig)(rm:Bool)(wr:Nat->Prop)(a0:Act)(out:Option Snap)(ex:List (Nat×Snap))(x:Out):Exit->Act->World->Prop
 |.normal,a,w=>∃O S,x=.next O/\out=some S/\SameBut wr a0 a/\Good C w0 σ0 (S.st ids) O (λ_=>False) a w
 |.exit id,a,w=>∃O S,x=.exit id O/\id≠cP/\(id,S)∈ex/\SameBut wr a0 a/\Good C w0 σ0 (S.st ids) O (λ_=>False) a w
 |.ret,a,w=>match rm with
  |false=>∃d,x=.ret d/\sy C w0 σ0 fn s d a.tmps a.defers w/\SameBut wr a0 a
  |true=>∃O S,x=.exit cP O/\(cP,S)∈ex/\SameBut wr a0 a/\Good C w0 σ0 (S.st ids) O (λ_=>False) a w
 |_,_,_=>False
def Good.meet1 {x y:Snap}(h:Good C w0 σ0 (x.st ids) O A a w):Good C w0 σ0 ((x.meet y).st ids) O (λ_=>False) a w:=by
 obtain⟨V,own,hv,h⟩:=h;exact⟨V,own,hv,Snap.meet_ok1 h⟩
def Good.meet2 {x y:Snap}(h:Good C w0 σ0 (y.st ids) O A a w):Good C w0 σ0 ((x.meet y).st ids) O (λ_=>False) a w:=by
 obtain⟨V,own,hv,h⟩:=h;exact⟨V,own,hv,Snap.meet_ok2 h⟩
def afk {x:Snap}{y:Option Snap}{M:Snap}(h:Good C w0 σ0 (x.st ids) O (λ_=>False) a w)(hm:na (some x) y=some M):Good C w0 σ0 (M.st ids) O (λ_=>False) a w:=by
 cases y<;>simp[na] at hm<;>subst hm
 .exact h
 .exact h.meet1
def afl {x:Option Snap}{y:Snap}{M:Snap}(h:Good C w0 σ0 (y.st ids) O (λ_=>False) a w)(hm:na x (some y)=some M):Good C w0 σ0 (M.st ids) O (λ_=>False) a w:=by
 cases x<;>simp[na] at hm<;>subst hm
 .exact h
 .exact h.meet2
def afm {x:Snap}{y:Option Snap}:∃M,na (some x) y=some M:=by cases y<;>simp[na]
def afn {x:Option Snap}{y:Snap}:∃M,na x (some y)=some M:=by cases x<;>simp[na]
def Mj {id:Nat}:∀(l:List (Nat×Snap)) {x:Snap},Good C w0 σ0 (x.st ids) O (λ_=>False) a w->∃M,pX id l (some x)=some M/\Good C w0 σ0 (M.st ids) O (λ_=>False) a w
 |[],x,h=>⟨x,rfl,h⟩
 |y::l,x,h=>by
  simp only[pX];cases Nat.beq y.1 id
  .exact Mj l h
  .obtain⟨M,hM⟩:=@afm x (some y.2);simp only[zyy,hM];exact Mj l (afk h hM)
def TH {id:Nat}{S:Snap}(h:Good C w0 σ0 (S.st ids) O (λ_=>False) a w):∀(l:List (Nat×Snap)) (x:Option Snap),(id,S)∈l->∃M,pX id l x=some M/\Good C w0 σ0 (M.st ids) O (λ_=>False) a w
 |y::l,x,hm=>by
  simp only[pX];rcases cA.1 hm with e|hm
  .subst e;simp only[j9,zyy];obtain⟨M,hM⟩:=@afn x S;rw[hM];exact Mj l (afl h hM)
  .exact TH h l _ hm
def Gp {step:Snap->Option Res2}:∀(k:Nat) {S:Snap} {r:Snap×Res2},iter step k S=some r->
 step r.1=some r.2/\(∀T,r.2.out=some T->r.1.meet T=r.1)/\∀{O:Env} {a:Act} {w:World},Good C w0 σ0 (S.st ids) O (λ_=>False) a w->Good C w0 σ0 (r.1.st ids) O (λ_=>False) a w
 |0,S,r,h=>by simp[iter] at h
 |k+1,S,r,h=>by
  simp only[iter,az] at h;obtain⟨q,hq,h⟩:=h;split at h
  .rename_i ho;cases h;exact⟨hq,λT hT=>by simp[ho] at hT,λg=>g⟩
  .rename_i T ho;cases hb:(S.meet T).beq S<;>simp only[hb,zyy,zyx] at h
   .obtain⟨h1,h2,h3⟩:=Gp k h;exact⟨h1,h2,λg=>h3 g.meet1⟩
   .cases h;refine⟨hq,λT' hT=>?_,λg=>g⟩;simp only[ho,ba] at hT;subst hT;exact Snap.beq_eq _ _ hb
def aez {step:Snap->Option Res2}{hv:Nat->Value}:∀(k:Nat) {S:Snap} {r:Snap×Res2},iter step k S=some r->Inv C (S.st ids) O V own hv w0 σ0 (λ_=>False) a w->Inv C (r.1.st ids) O V own hv w0 σ0 (λ_=>False) a w
 |0,S,r,h,_=>by simp[iter] at h
 |k+1,S,r,h,i=>by
  simp only[iter,az] at h;obtain⟨q,hq,h⟩:=h;split at h
  .cases h;exact i
  .rename_i T ho;cases hb:(S.meet T).beq S<;>simp only[hb,zyy,zyx] at h
   .exact aez k h (Snap.meet_ok1 i)
   .cases h;exact i
def Good.joined {M:Snap}{m:Nat}{mo mr' mo':List Nat}(h:Good C w0 σ0 (M.st ids) O' (λ_=>False) a w)(hb:O.but O' mr' mo')(h1:∀t,t∈mr'->aR m t=true)(h2:∀j,j∈mo'->j∈mo):
 Good C w0 σ0 (M.st ids) (O.join (kV M m) (jR ids M mo) O') (λ_=>False) a w:=by
 obtain⟨V,own,hv,h⟩:=h;refine⟨V,own,hv,h.env (Snap.noOpt _ _) (λt ht=>?_) (λj hj=>?_)⟩
 .simp only[Env.join,Env.put,uX];split
  .rfl
  .rename_i hm;refine(hb.r t λFM=>hm ?_).symm;have af:t<M.rs.length:=by
        refine aay λhle=>?_;simp only[Snap.st,aE,j5 hle,Option.getD_none,cJ,isNone] at ht;cases ht
   exact eH.2 ⟨fP.2 af,by rw[h1 t FM];simpa [Snap.st] using ht⟩
 .simp only[Env.join,Env.put,uX];split
  .rfl
  .rename_i hm;refine(hb.o j λFM=>hm ?_).symm;exact eH.2 ⟨h2 j FM,by simpa [Snap.st] using hj⟩
def Mk {S:Snap}{m t:Nat}(h:t∈kV S m):aR m t=true:=by
 have:=(eH.1 h).2;simp only[ao] at this;exact this.1
def Ct {S:Snap}{l:List Nat}{j:Nat}(h:j∈jR ids S l):j∈l:=(eH.1 h).1
def aa4 {id:Nat}{q:Res2}(h:(∀t,t∈q.pc.modR->aR q.mr t=true)/\∀j,j∈q.pc.modO->j∈q.mo):(∀t,t∈(gO ids id q).pc.modR->aR (gO ids id q).mr t=true)/\∀j,j∈(gO ids id q).pc.modO->j∈(gO ids id q).mo:=by
 unfold gO;cases hm:pX id q.ex q.out<;>simp only
 .simpa [PC.modR,PC.modO] using h
 .refine⟨λt ht=>?_,λj hj=>?_⟩
  .simp only[PC.modR,dM] at ht;exact ht.elim Mk (h.1 t)
  .simp only[PC.modO,dM] at hj;exact hj.elim Ct (h.2 j)
def auc {p:MP}{ws:List Nat}{f:Snap->Option Res2}{S:Snap}{r:Res2}(h:Cs ids n p ws f S=some r):(∀t,t∈r.pc.modR->aR r.mr t=true)/\∀j,j∈r.pc.modO->j∈r.mo:=by
 unfold Cs at h;split at h
 case h_2=>cases h;exact nv
 split at h
 case h_2=>cases h;exact nv
 simp only at h;split at h
 case h_2=>cases h;exact nv
 rw[qx] at h;split at h
 .cases h;refine⟨λt ht=>by simp[PC.modR] at ht,λj hj=>?_⟩;simp only[PC.modO,tU] at hj;exact Ct hj
 .cases h;exact nv
def vz:∀(c:Code) {rm:Bool} {S:Snap} {r:Res2},comp C fn s n ids R rm c S=some r->(∀t,t∈r.pc.modR->aR r.mr t=true)/\∀j,j∈r.pc.modO->j∈r.mo:=by
 intro c
 induction c with
 |skip=>intro rm S r h;simp only[comp,ba] at h;subst h;simp[PC.modR,PC.modO]
 |region id ops draw=>
  intro rm S r h;simp only[comp,aB] at h;obtain⟨q,_,rfl⟩:=h;exact⟨λt ht=>afd _ ht,λj hj=>auk _ hj⟩
 |seq x y jP yZ=>
  intro rm S r h;simp only[comp,az] at h;obtain⟨q,hq,h⟩:=h;split at h
  .cases h;exact jP hq
  .simp only[aB] at h;obtain⟨p,hp,rfl⟩:=h;refine⟨λt ht=>?_,λj hj=>?_⟩
   .simp only[PC.modR,dM] at ht;rw[gN,kE];exact ht.imp ((jP hq).1 t) ((yZ hp).1 t)
   .simp only[PC.modO,dM] at hj;rw[rH];exact hj.imp ((jP hq).2 j) ((yZ hp).2 j)
 |cond c x y jP yZ=>
  intro rm S r h;simp only[comp] at h;split at h
  case h_2=>cases h;exact nv
  rename_i e _;simp only[az,aB] at h;obtain⟨q,hq,p,hp,rfl⟩:=h;cases hm:na q.out p.out<;>simp only[hm]
  .refine⟨λt ht=>?_,λj hj=>?_⟩
   .simp only[PC.modR,dM,xB] at ht;rw[gN,kE];exact ht.imp ((jP hq).1 t) ((yZ hp).1 t)
   .simp only[PC.modO,dM,xB] at hj;rw[rH];exact hj.imp ((jP hq).2 j) ((yZ hp).2 j)
  .refine⟨λt ht=>?_,λj hj=>?_⟩
   .simp only[PC.modR,dM] at ht;rw[gN,kE];rcases ht with(ht|ht)|ht
    .have:=Mk ht;rw[gN,kE] at this;exact this
    .exact .inl ((jP hq).1 t ht)
    .exact .inr ((yZ hp).1 t ht)
   .simp only[PC.modO,dM] at hj;rcases hj with(hj|hj)|hj
    .exact Ct hj
    .exact rH.2 (.inl ((jP hq).2 j hj))
    .exact rH.2 (.inr ((yZ hp).2 j hj))
 |block id x jP=>
  intro rm S r h;simp only[comp] at h;cases cL:Nat.beq id cP<;>simp only[cL,zyy,zyx] at h
  case true=>cases h;exact nv
  simp only[aB] at h;obtain⟨q,hq,rfl⟩:=h;exact aa4 (jP hq)
 |loop x jP=>
  intro rm S r h;rw[abv] at h;split at h
  .exact auc h
  split at h
  case h_2=>cases h;exact nv
  rename_i q hq;cases h;have hs:=(Gp (C:=C) (w0:=default) (σ0:=Base.mk0 ⟨λ_ _=>none,λ_=>none⟩ 0) (ids:=ids) 8 hq).1;refine⟨λt ht=>?_,λj hj=>?_⟩
  .simp only[PC.modR,dM] at ht;exact ht.elim Mk ((jP hs).1 t)
  .simp only[PC.modO,dM] at hj;exact hj.elim Ct ((jP hs).2 j)
 |exit id=>
  intro rm S r h;simp only[comp] at h;cases cL:Nat.beq id cP<;>simp only[cL,zyy,zyx] at h<;>cases h
  .simp[PC.modR,PC.modO]
  .exact nv
 |ret=>
  intro rm S r h;simp only[comp] at h;cases rm<;>simp only[zyy,zyx] at h
  case true=>cases h;simp[PC.modR,PC.modO]
  split at h
  .cases h;simp[PC.modR,PC.modO]
  .cases h;exact nv
 |rangeFunc g ps x y _ _=>
  intro rm S r h;simp only[comp] at h;split at h
  case h_2=>cases h;exact nv
  split at h
  case h_2=>cases h;exact nv
  split at h
  case h_2=>cases h;exact nv
  rename_i q hq;rw[qx] at h;split at h
  .cases h;refine⟨λt ht=>?_,λj hj=>?_⟩
   .simp[PC.modR,PI.modR] at ht;subst ht;exact sD _
   .simp only[PC.modO,PI.modO,vk,List.flatMap_nil,tU,xB] at hj;exact(eH.1 hj).1
  .cases h;exact nv
 |_=>intro rm S r h;simp only[comp,ba] at h;subst h;exact nv
def ic.mono {rm:Bool}{wr:Nat->Prop}{a0 a1:Act}{out ahm:Option Snap}{ex ex':List (Nat×Snap)}{x:Out}{e:Exit}(h:ic C w0 σ0 ids fn s rm wr a0 out ex x e a w)(he:∀y,y∈ex->y∈ex')(hs:SameBut wr a1 a0)
 (ho:e=.normal->ahm=out):ic C w0 σ0 ids fn s rm wr a1 ahm ex' x e a w:=by
 cases e with
 |normal=>obtain⟨O,S,h1,h2,h3,h4⟩:=h;exact⟨O,S,h1,by rw[ho rfl];exact h2,hs.trans h3,h4⟩
 |exit id=>obtain⟨O,S,h1,h2,h3,h4,h5⟩:=h;exact⟨O,S,h1,h2,he _ h3,hs.trans h4,h5⟩
 |ret=>
  cases rm with
  |false=>obtain⟨d,h1,h2,h3⟩:=h;exact⟨d,h1,h2,hs.trans h3⟩
  |true=>obtain⟨O,S,h1,h3,h4,h5⟩:=h;exact⟨O,S,h1,he _ h3,hs.trans h4,h5⟩
 |_=>exact h.elim
def abR {body:Env->Option Out}{O:Env}{ps lo:List Nat}{rt:Option PE}{x:Out}:∀{xs vo:List D},jn body O ps lo rt xs vo=some x->
 ∃(m:Nat) (nz:Nat->List D),m<=xs.length/\nz 0=vo/\
  (∀i,i<m->∃y O',xs[i]?=some y/\body (O.put ps (partsOf ps y) lo (nz i))=some (.next O')/\lo.map O'.o=nz (i+1))/\
  ((m=xs.length/\x=.next (O.put [] [] lo (nz m)))\/
   (m<xs.length/\∃y id O',xs[m]?=some y/\body (O.put ps (partsOf ps y) lo (nz m))=some (.exit id O')/\
    ((id≠cP/\x=.exit id (O.put [] [] lo (lo.map O'.o)))\/(id=cP/\∃e,rt=some e/\x=.ret (e.ev (O.put [] [] lo (lo.map O'.o)))))))
 |[],vo,h=>by
  simp only[jn,ba] at h;exact⟨0,λ_=>vo,aX _,rfl,λi hi=>by omega,.inl ⟨rfl,h.symm⟩⟩
 |y::xs,vo,h=>by
  simp only[jn] at h;split at h
  .rename_i O' hb;obtain⟨m,nz,h1,h2,h3,h4⟩:=abR h;refine⟨m+1,λi=>match i with|0=>vo|i+1=>nz i,by simp;omega,rfl,λi hi=>?_,?_⟩
   .cases i with
    |zero=>exact⟨y,O',rfl,hb,h2.symm⟩
    |succ i=>simpa using h3 i (by omega)
   .rcases h4 with⟨e1,e2⟩|⟨e1,z,id,ρ2,e2,e3,e4⟩
    .exact .inl ⟨by simp[e1],e2⟩
    .exact .inr ⟨by simp;omega,z,id,ρ2,by simpa using e2,e3,e4⟩
  .rename_i id O' hb;refine⟨0,λ_=>vo,jI _,rfl,λi hi=>by omega,.inr ⟨by simp,y,id,O',rfl,hb,?_⟩⟩;cases cL:Nat.beq id cP<;>simp only[cL,zyy,zyx] at h
   .refine .inl ⟨λe=>?_,(tX h).symm⟩;subst e;simp at cL
   .simp only[aB] at h;obtain⟨e,he,e2⟩:=h;exact .inr ⟨ay cL,e,he,e2.symm⟩
  .cases h
def aa1 {l:List Nat}{t:Nat}(h:t∈l):aR (zc l) t=true:=by
 induction l with
 |nil=>cases h
 |cons x l ih=>
  have e:zc (x::l)=Nat.lor (ij x) (zc l):=rfl;rw[e,gN];rcases cA.1 h with e|e
  .subst e;rw[sD];rfl
  .rw[ih e];simp
def TF (m:Nat):∀(l:List Sh) (k t:Nat),(uR m k l).getD t .none=if aR m (k+t)=true then .none else l.getD t .none
 |[],k,t=>by simp[uR]
 |s::l,k,0=>by
  simp only[uR,su,iQ];cases aR m k<;>rfl
 |s::l,k,t+1=>by
  simp only[uR,DL];rw[TF m l (k+1) t,show k+1+t=k+(t+1) by omega]
def Gy (m:Nat)(S:Snap)(t:Nat):((S.mask m).st ids).r t=if aR m t=true then .none else(S.st ids).r t:=by
 show cJ ((uR m 0 S.rs).getD t .none)=if aR m t=true then .none else cJ (S.rs.getD t .none);rw[TF,fQ];split<;>rfl
def aui {m:Nat}{x S:Snap}{t:Nat}(h:aR m t=true):((x.meet (S.mask m)).st ids).r t=.none:=by
 show cJ ((List.zipWith jS x.rs (uR m 0 S.rs)).getD t .none)=.none;rcases OU (f:=jS) x.rs (uR m 0 S.rs) t with h0|⟨s,u,h1,h2,h3⟩
 .rw[h0];rfl
 .rw[TF,fQ,if_pos h] at h2;subst h2;rw[h3];cases s<;>rfl
def Inv.maskR {S:Snap}{hv:Nat->Value}(h:Inv C (S.st ids) O V own hv w0 σ0 A a w)(m:Nat):Inv C ((S.mask m).st ids) O V own hv w0 σ0 (λ_=>False) a w:=by
 have hc:Compat (S.st ids) hv ((S.mask m).st ids) hv:=⟨λ_=>aX _,λ_ _=>rfl⟩
 refine h.weaken (λt=>?_) (λj=>?_) (Snap.noOpt _ _) (λj hj=>⟨hj,rfl⟩)
 .refine aG.mono' (O:=O) (.refl V) hc (Snap.noOpt _ _ t) ?_;rw[Gy];split
  .trivial
  .exact h.regs t
 .exact(h.objs j).mono (.refl V) hc rfl rfl (λk hk=>⟨hk,rfl⟩)
def WK:∀(ps:List Nat) (ys:List Ty) (l:List Sh),ps.length=ys.length->gX ps=true->∀t,(tG ps ys l).getD t .none=.none\/(t∉ps/\(tG ps ys l).getD t .none=l.getD t .none)\/∃(i:Nat) (y:Ty),ps[i]?=some t/\ys[i]?=some y/\(tG ps ys l).getD t .none=.dat y
 |[],ys,l,_,_,t=>.inr (.inl ⟨by simp,by cases ys<;>rfl⟩)
 |p::ps,[],l,h,_,t=>by simp at h
 |p::ps,y::ys,l,h,hn,t=>by
  have lD:=pY hn;rw[pg] at lD;have dS:gX ps=true:=by
   simp only[gX,ao] at hn;exact hn.2
  show(tG ps ys (l.set p (.dat y))).getD t .none=_\/_\/_;rcases WK ps ys (l.set p (.dat y)) (by simpa using h) dS t with e|⟨e1,e2⟩|⟨i,z,e1,e2,e3⟩
  .exact .inl e
  .by_cases hp:t=p
   .subst hp;by_cases af:t<l.length
    .exact .inr (.inr ⟨0,y,rfl,rfl,by show(tG ps ys (l.set t (.dat y))).getD t .none=_;rw[e2];simp[aE,af]⟩)
    .left;rw[e2];simp[aE,af]
   .refine .inr (.inl ⟨by simp[hp,e1],?_⟩);show(tG ps ys (l.set p (.dat y))).getD t .none=_;rw[e2];simp only[aE,DM];rw[if_neg (λe=>hp e.symm)]
  .exact .inr (.inr ⟨i+1,z,by simpa using e1,by simpa using e2,e3⟩)
def np:List Nat->List Value->Array Value->Array Value
 |p::ps,v::vs,T=>np ps vs (T.setIfInBounds p v)
 |_,_,T=>T
def aw7 (ps:Array Nat)(vs:Array Value)(T:Array Value):(ps.zip vs).foldl (λT x=>T.setIfInBounds x.1 x.2) T=np ps.toList vs.toList T:=by
 rw[<-Array.foldl_toList,Array.toList_zip];generalize ps.toList=l;generalize vs.toList=k
 induction l generalizing k T with
 |nil=>rfl
 |cons p l ih=>
  cases k with
  |nil=>rfl
  |cons v k=>simpa [np] using ih (T.setIfInBounds p v) k
def ajd:∀(ps:List Nat) (vs:List Value) (T:Array Value),(np ps vs T).size=T.size
 |[],vs,T=>by cases vs<;>rfl
 |p::ps,[],T=>rfl
 |p::ps,v::vs,T=>by simp[np,ajd ps vs]
def Od:∀(ps:List Nat) (vs:List Value) (T:Array Value) (t:Nat),t∉ps->(np ps vs T).getD t undef=T.getD t undef
 |[],vs,T,t,_=>by cases vs<;>rfl
 |p::ps,[],T,t,_=>rfl
 |p::ps,v::vs,T,t,h=>by
  simp only[cA,not_or] at h;simp only[np];rw[Od ps vs _ t h.2];simp only[fM,DD];rw[if_neg (λe=>h.1 e.symm)]
def ajc:∀(ps:List Nat) (vs:List Value) (T:Array Value) (i t:Nat),ps.Nodup->ps.length=vs.length->(∀p,p∈ps->p<T.size)->ps[i]?=some t->(np ps vs T).getD t undef=vs.getD i undef
 |p::ps,v::vs,T,0,t,hn,hl,af,h=>by
  simp at h;subst h;rw[pg] at hn;simp only[np];rw[Od ps vs _ p hn.1];simp[DD,af p (fO ..)]
 |p::ps,v::vs,T,i+1,t,hn,hl,af,h=>by
  rw[pg] at hn;simp only[np];have:=ajc ps vs (T.setIfInBounds p v) i t hn.2 (by simpa using hl) (λq hq=>by simpa using af q (fo _ hq)) (by simpa using h);simpa using this
 |p::ps,[],T,i,t,hn,hl,af,h=>by simp at hl
 |[],vs,T,i,t,hn,hl,af,h=>by simp at h
def CL (f:Nat->D):∀(ps:List Nat) (vs:List D) (t:Nat),t∉ps->putL f ps vs t=f t
 |[],vs,t,_=>by cases vs<;>rfl
 |p::ps,[],t,_=>rfl
 |p::ps,v::vs,t,h=>by
  simp only[cA,not_or] at h;simp only[putL,bA _ _ h.1];exact CL f ps vs t h.2
def U7 (f:Nat->D):∀(ps:List Nat) (vs:List D) (i t:Nat),ps.Nodup->ps.length=vs.length->ps[i]?=some t->putL f ps vs t=vs.getD i .none
 |p::ps,v::vs,0,t,hn,hl,h=>by
  simp at h;subst h;simp[putL,aN]
 |p::ps,v::vs,i+1,t,hn,hl,h=>by
  rw[pg] at hn;have ht:t∈ps:=j6 (by simpa using h);have au:t≠p:=λe=>hn.1 (e▸ht);simp only[putL,bA _ _ au];have:=U7 f ps vs i t hn.2 (by simpa using hl) (by simpa using h);simpa using this
 |p::ps,[],i,t,hn,hl,h=>by simp at hl
 |[],vs,i,t,hn,hl,h=>by simp at h
def avm (ps:List Nat)(ds:List D)(i:Nat)(h:i<ps.length):(partsOf ps (.tup ds)).getD i .none=ds.getD i .none:=by
 simp[partsOf,aE,h,D.tget]
def avl (ps:List Nat)(x:D):(partsOf ps x).length=ps.length:=by simp[partsOf]
def Inv.startR {S:Snap}{hv:Nat->Value}(h:Inv C (S.st ids) O V own hv w0 σ0 A a w){ps:List Nat}{ys:List Ty}{args:List Value}{ds:List D}{lo:List Nat}{vo:List D}(hl:ps.length=ys.length)(bo:gX ps=true)(af:∀p,p∈ps->p<a.tmps.size)(ha:qv C V ys args ds)
 (hρ:O=O'.put [] [] lo vo):Inv C ((S.start ps ys).st ids) (O'.put ps (partsOf ps (.tup ds)) lo vo) V own hv w0 σ0 (λ_=>False) {tmps:=np ps args a.tmps,defers:=[]} w:=by
 obtain⟨a1,a2,a3⟩:=ha;have hn:=pY bo;have hc:Compat (S.st ids) hv ((S.start ps ys).st ids) hv:=⟨λ_=>aX _,λ_ _=>rfl⟩
 have ho:∀j,(O'.put ps (partsOf ps (.tup ds)) lo vo).o j=O.o j:=λj=>by rw[hρ];rfl
 refine⟨trivial,h.ok,h.le,h.old,h.newc,h.newm,h.below,h.bw,h.owns,λt=>?_,λj=>(h.objs j).mono (.refl V) hc rfl (ho j) (λk hk=>⟨hk,rfl⟩),λt gs s e=>absurd e (Snap.noOpt _ _ t gs s),?_⟩
 .show aG C _ _ V hv (cJ ((tG ps ys (S.rs.map uJ)).getD t .none)) ((np ps args a.tmps).getD t undef) (putL O'.r ps (partsOf ps (.tup ds)) t);rcases WK ps ys (S.rs.map uJ) hl bo t with e|⟨e1,e2⟩|⟨i,y,e1,e2,e3⟩
  .rw[e];trivial
  .rw[e2,Od _ _ _ _ e1,CL _ _ _ _ e1];have hr:=h.regs t;change aG C _ O V hv (cJ (S.rs.getD t .none)) _ _ at hr;have hρr:O.r t=O'.r t:=by rw[hρ];show putL O'.r [] [] t=_;rfl
   rw[hρr] at hr;have e3:(S.rs.map uJ).getD t .none=uJ (S.rs.getD t .none):=by
        simp only[aE,cj];cases S.rs[t]?<;>rfl
   rw[e3];generalize S.rs.getD t .none=s at hr;cases s with
   |yv=>trivial
   |opt gs s=>trivial
   |none=>trivial
   |fclo f c=>exact aG.mono' (.refl V) hc (λ_ _ e=>by cases e) hr
   |agg l=>exact aG.mono' (.refl V) hc (λ_ _ e=>by cases e) hr
   |dat t=>exact hr
   |obj j v=>exact aG.mono' (.refl V) hc (λ_ _ e=>by cases e) hr
   |ptr j v o=>exact aG.mono' (.refl V) hc (λ_ _ e=>by cases e) hr
   |eptr j v o q=>exact aG.mono' (.refl V) hc (λ_ _ e=>by cases e) hr
  .rw[e3];have hi:i<ps.length:=(eG.1 e1).1;rw[ajc ps args a.tmps i t hn (by omega) af e1,U7 _ ps _ i t hn (by rw[avl]) e1,avm _ _ _ hi];exact a3 i y e2
 .obtain⟨t,fx,cx,h1,h2⟩:=h.frame;exact⟨t,fx,cx,h1,λj hj=>⟨(h2 j hj).1,by rw[ho j];exact(h2 j hj).2⟩⟩
def xI (C:Ctx)(Z:aT)(fn:Func)(s:Sig)(n:Nat)(ids:List Nat)(R:Array Oper->Bool->Snap->Option (Snap×List PI))(N:Nat)(c:Code):Prop:=
 ∀(rm:Bool) (S:Snap) (r:Res2),comp C fn s n ids R rm c S=some r->∀(rd:Option Nat) (w0:World) (σ0:Base) (wr:Nat->Prop) (O:Env) (x:Out) (a:Act) (w:World),(rm=false->rd=none/\σ0.fin)->CtxOK C σ0->tZ C Z w0 σ0->(∀t,t∈cD c->wr t)->a.tmps.size=n->
  Good C w0 σ0 (S.st ids) O (λ_=>False) a w->r.pc.ev Z N O=some x->c.wpIn (FR rd) 0 C.P (ic C w0 σ0 ids fn s rm wr a r.out r.ex x) a w
structure Seg (V:Im) (own:Nat->Option Nat) (w:World) (V':Im) (own':Nat->Option Nat) (w':World):Prop where
 le:V.le V'
 below:Below 0 w w'
 same:∀k,k<w.heap.size->own k=none->w'.heap[k]?=w.heap[k]?
 ow:∀k j,own' k=some j->(∃i,own k=some i)\/w.heap.size<=k
 imm:∀k,((∃o x,V'.c k o=some x)\/∃x,V'.m k=some x)->(∃o x,V.c k o=some x)\/(∃x,V.m k=some x)\/(∃i,own k=some i)\/w.heap.size<=k
structure Free (L:Nat) (V:Im) (own:Nat->Option Nat):Prop where
 own:own L=none
 c:∀o,V.c L o=none
 m:V.m L=none
def Free.seg {L:Nat}{V':Im}{own':Nat->Option Nat}{w':World}(h:Free L V own)(hL:L<w.heap.size)(k:Seg V own w V' own' w'):Free L V' own':=by
 have FD:¬((∃o x,V'.c L o=some x)\/∃x,V'.m L=some x):=λe=>by
  rcases k.imm L e with⟨o,x,e⟩|⟨x,e⟩|⟨i,e⟩|e
  .rw[h.c o] at e;cases e
  .rw[h.m] at e;cases e
  .rw[h.own] at e;cases e
  .omega
 refine⟨?_,λo=>?_,?_⟩
 .cases e:own' L with
  |none=>rfl
  |some j=>
   rcases k.ow L j e with⟨i,e⟩|e
   .rw[h.own] at e;cases e
   .omega
 .cases e:V'.c L o with
  |none=>rfl
  |some x=>exact absurd (.inl ⟨o,x,e⟩) FD
 .cases e:V'.m L with
  |none=>rfl
  |some x=>exact absurd (.inr ⟨x,e⟩) FD
def aks (C:Ctx)(w0:World)(σ0:Base)(ids:List Nat)(wr:Nat->Prop)(a0:Act)(V:Im)(own:Nat->Option Nat)(w:World)(out:Option Snap)(ex:List (Nat×Snap))(x:Out)(e:Exit)(a':Act)(w':World):Prop:=
 ∃O' S' V' own' hv',Inv C (S'.st ids) O' V' own' hv' w0 σ0 (λ_=>False) a' w'/\Seg V own w V' own' w'/\SameBut wr a0 a'/\
  match e with
  |.normal=>x=.next O'/\out=some S'
  |.exit id=>x=.exit id O'/\id≠cP/\(id,S')∈ex
  |.ret=>x=.exit cP O'/\(cP,S')∈ex
  |_=>False
def ai7 {N:Nat}{c:Code}(hc:xI C Z fn s n ids R N c){S:Snap}{r:Res2}(hr:comp C fn s n ids R true c S=some r)(l9:C.yl=none)(hC:CtxOK C σ0){wr:Nat->Prop}{O:Env}{x:Out}{hv:Nat->Value}(h:Inv C (S.st ids) O V own hv w0 σ0 (λ_=>False) a w)
 (fG:∀t,t∈cD c->wr t) (hn:a.tmps.size=n) (he:r.pc.ev Z N O=some x) (L:Nat):c.wpIn (FR (some L)) 0 C.P (aks C w0 σ0 ids wr a V own w r.out r.ex x) a w:=by
 obtain⟨t,fx,cx,dR,ht⟩:=h.frame;have h1:=h.toRnd (X:=λ_=>False) ht;refine wpIn_mono (hc true S r hr (some L) w0 (σ0.rnd V own w t λ_=>False) wr O x a w (λe=>by cases e) (hC.mono h.le) (λJ ys e=>by rw[l9] at e;cases e) fG hn ⟨_,_,_,h1⟩ he) λe a' w' ho=>?_
 have main:∀{S':Snap} {O':Env},SameBut wr a a'->Good C w0 (σ0.rnd V own w t λ_=>False) (S'.st ids) O' (λ_=>False) a' w'->∃V' own' hv',Inv C (S'.st ids) O' V' own' hv' w0 σ0 (λ_=>False) a' w'/\Seg V own w V' own' w'/\SameBut wr a a':=by
  intro S' O' hs hg;obtain⟨V',own',hv',h2⟩:=hg;exact⟨V',own',hv',h.ofRnd dR (λ_ _=>id) h2,⟨h2.le,h.rndBelow h2,λk hk ho=>Inv.rndSame h.ok h2 hk ho id,λk j e=>Inv.rndOwn h2 e id,λk e=>Inv.rndC h2 e id⟩,hs⟩
 cases e with
 |normal=>
  obtain⟨O',S',e1,e2,e3,e4⟩:=ho;obtain⟨V',own',hv',g1,g2,g3⟩:=main e3 e4;exact⟨O',S',V',own',hv',g1,g2,g3,e1,e2⟩
 |exit id=>
  obtain⟨O',S',e1,e0,e2,e3,e4⟩:=ho;obtain⟨V',own',hv',g1,g2,g3⟩:=main e3 e4;exact⟨O',S',V',own',hv',g1,g2,g3,e1,e0,e2⟩
 |ret=>
  obtain⟨O',S',e1,e2,e3,e4⟩:=ho;obtain⟨V',own',hv',g1,g2,g3⟩:=main e3 e4;exact⟨O',S',V',own',hv',g1,g2,g3,e1,e2⟩
 |_=>exact ho.elim
def Inv.putL {L:Nat}{hv:Nat->Value}{S:St}{O:Env}(h:Inv C S O V own hv w0 σ0 A a w)(hL:w0.heap.size<=L)(hf:Free L V own)(hx:∀t fx cx,FrOK V own w0.heap.size σ0 w t fx cx->¬fx L)(o:Obj):Inv C S O V own hv w0 σ0 A a (w.putObj L o):=
 h.keep (X:=λk=>k≠L) ⟨rfl,rfl,rfl,by simp,λk hk=>by omega⟩ (λk hk=>World.putObj_heap_other hk) (λk hk=>by omega) (λk j e1 e2=>by subst e2;rw[hf.own] at e1;cases e1) (λk o v e1 e2=>by subst e2;rw[hf.c] at e1;cases e1)
  (λk v e1 e2=>by subst e2;rw[hf.m] at e1;cases e1) (λt fx cx dR k hk e=>by subst e;exact hx t fx cx dR hk)
def aAS {o:Oper}{L:Nat}{x:Operand}{aa:Array Operand}{ts:Array TypeId}{r:Loop}(eA:o.op=.call {callee:=.value x,args:=aa,argTypes:=ts})(hx:a.eval x=.func (.yield L) #[] #[])(hL:w.heap[L]?=some (.loop r))(hs:aa.size=r.params.size):
 (execOp a.eval o).run C.P w=.ok (.round L r.fn ((r.params.zip (aa.map a.eval)).foldl (λtmps (t,v)=>tmps.setIfInBounds t v) r.tmps) r.assign r.body) w:=by
 have hy:=run_yield (P:=C.P) (args:=aa.map a.eval) hL (by simpa using hs);simp[execOp,eA,resolve,hx,Deferred.ofValue,invoke,hy]
def awe {g:Operand}{f:Nat}{vs:List Value}{L:Nat}(hf:∃fn,C.P.funcs[f]?=some fn/\fn.body.isSome=true/\(fn.name== "runtime.NumGoroutine")=false)(hg:a.eval g=.func (.func f) #[] vs.toArray):
 (resolve a.eval (rangeCall g L) 0).run C.P w=.ok {target:=.fn (.func f) vs.toArray,args:=#[.func (.yield L) #[] #[]]} w/\
 (invoke (.fn (.func f) vs.toArray) #[.func (.yield L) #[] #[]]).run C.P w=.ok (.enter f (#[.func (.yield L) #[] #[]]++vs.toArray)) w:=by
 obtain⟨fn,h1,h2,h3⟩:=hf;obtain⟨bd,fa⟩:=aaB.1 h2;have h4:¬fn.name= "runtime.NumGoroutine" :=by simpa using h3
 constructor
 .simp only[resolve,hg];simp[go_sem]
 .simp[invoke,callFunc,h1,fa,h4]
def FrOK.enter {hv:Nat->Value}{S:St}{O:Env}(h:Inv C S O V own hv w0 σ0 A a w){t:D}{fx cx:Nat->Prop}(hf:FrOK V own w0.heap.size σ0 w t fx cx)(r:Loop):FrOK (V.mark w.heap.size) own w0.heap.size σ0 ((w.alloc (.deferred (some []))).alloc (.loop r)) t fx cx:=by
 have hb:=abV w (.deferred (some [])) (.loop r);have af:=σ0.lt _ _ _ _ hf.F;have cg:=σ0.sub _ _ _ _ hf.F;have yG:∀k x,(V.mark w.heap.size).m k=some x->V.m k=some x\/k=w.heap.size:=by
  intro k x e;simp only[Im.mark] at e;split at e
  .rename_i e2;exact .inr e2
  .exact .inl e
 refine⟨σ0.keep _ _ _ _ _ hf.F (hb.mono (jI _)) λk hk=>hb.block k (af k hk),hf.own,hf.c,λk x e hc=>?_,λk e hB hk=>?_⟩
 .rcases yG k x e with e|e
  .exact hf.m k x e hc
  .have:=af k (cg k hc);omega
 .rcases yG k _ e with e|e
  .exact hf.d k e hB hk
  .have:=af k hk;omega
structure RSt (C:Ctx) (w0:World) (σR:Base) (ids:List Nat) (ρ1:Env) (lo:List Nat) (aM:Act) (L:Nat) (W1:World) (σ1:Im) (rec:LoopState->Option Code->Loop) (xs:List D) (P:Nat->List D->Snap->LoopState->Option Code->Prop) (t:D) (fx cx:Nat->Prop) (w:World):Prop where
 lt:∀k,fx k->k<w.heap.size
 sub:∀k,cx k->fx k
 old:∀k,k<W1.heap.size->fx k
 ex:∃(i:Nat) (vo:List D) (Sx:Snap) (st:LoopState) (pe:Option Code) (V:Im) (own:Nat->Option Nat) (hv:Nat->Value),t=.list (xs.take i)/\P i vo Sx st pe/\Inv C (Sx.st ids) (ρ1.put [] [] lo vo) V own hv w0 σR (λ_=>False) aM w/\
  σ1.le V/\Free L V own/\w.heap[L]?=some (.loop (rec st pe))/\(∀k j,own k=some j->fx k)/\(∀k o x,V.c k o=some x->fx k)/\(∀k x,V.m k=some x->fx k)/\∀k,cx k↔((∃j,own k=some j)\/k=L)
def RSt.keep {σR:Base}{ρ1:Env}{lo:List Nat}{aM:Act}{L:Nat}{W1:World}{σ1:Im}{rec:LoopState->Option Code->Loop}{xs:List D}{P:Nat->List D->Snap->LoopState->Option Code->Prop}{t:D}{fx cx:Nat->Prop}{w w':World}
 (h0:w0.heap.size<=W1.heap.size) (hL:L<W1.heap.size) (hR:∀t f c w,σR.F t f c w->∀k,f k->k<W1.heap.size) (h:RSt C w0 σR ids ρ1 lo aM L W1 σ1 rec xs P t fx cx w) (hb:Below 0 w w') (hs:∀k,fx k->w'.heap[k]?=w.heap[k]?):
 RSt C w0 σR ids ρ1 lo aM L W1 σ1 rec xs P t fx cx w':=by
 obtain⟨i,vo,Sx,st,pe,V,own,hv,e1,e2,e3,e4,e5,e6,e7,e8,e9,e10⟩:=h.ex;refine⟨λk hk=>ln (h.lt k hk) hb.size,h.sub,h.old,i,vo,Sx,st,pe,V,own,hv,e1,e2,?_,e4,e5,(hs L (h.old L hL)).trans e6,e7,e8,e9,e10⟩;exact e3.keep (X:=fx) hb hs (λk hk=>h.old k (by omega)) e7 e8 e9 (λt f c hf k hk=>h.old k (hR _ _ _ _ hf.F k hk))
def Im.noM_m {V:Im}{k:Nat}{v:List (Value×Value)}(h:V.noM.m k=some v):V.m k=some v/\v≠cC:=by
 simp only[Im.noM] at h;split at h
 .cases h
 .rename_i au;exact⟨h,λe=>au (by rw[h,e])⟩
structure SegL (L:Nat) (V:Im) (own:Nat->Option Nat) (w:World) (V':Im) (own':Nat->Option Nat) (w':World):Prop where
 le:V.le V'
 below:Below 0 w w'
 same:∀k,k<w.heap.size->own k=none->k≠L->w'.heap[k]?=w.heap[k]?
 ow:∀k j,own' k=some j->(∃i,own k=some i)\/w.heap.size<=k
 imm:∀k,((∃o x,V'.c k o=some x)\/∃x,V'.m k=some x)->(∃o x,V.c k o=some x)\/(∃x,V.m k=some x)\/(∃i,own k=some i)\/w.heap.size<=k
def ahE (w:World)(L:Nat)(o:Obj):Below 0 w (w.putObj L o):=⟨rfl,rfl,rfl,by simp,λk hk=>by omega⟩
def Seg.round {L:Nat}{V' V'':Im}{own' ahn:Nat->Option Nat}{w' lg:World}{o o':Obj}(h:Seg V own w V' own' w')(k:Seg V' own' (w'.putObj L o) V'' ahn lg):SegL L V own w V'' ahn (lg.putObj L o'):=by
 have aJ:=h.below.size;have vU:=k.below.size;simp only[World.putObj_size] at vU;refine⟨h.le.trans k.le,h.below.trans ((ahE _ _ _).trans (k.below.trans (ahE _ _ _))),λq hq ho hL=>?_,λq j e=>?_,λq e=>?_⟩
 .have h1:own' q=none:=by
   cases e:own' q with
   |none=>rfl
   |some j=>
    rcases h.ow q j e with⟨i,e⟩|e
    .rw[ho] at e;cases e
    .omega
  rw[World.putObj_heap_other hL,k.same q (by simp;omega) h1,World.putObj_heap_other hL,h.same q hq ho]
 .rcases k.ow q j e with⟨i,e⟩|e
  .exact h.ow q i e
  .simp only[World.putObj_size] at e;exact .inr (by omega)
 .rcases k.imm q e with e|e|⟨i,e⟩|e
  .exact h.imm q (.inl e)
  .exact h.imm q (.inr e)
  .rcases h.ow q i e with e|e
   .exact .inr (.inr (.inl e))
   .exact .inr (.inr (.inr e))
  .simp only[World.putObj_size] at e;exact .inr (.inr (.inr (by omega)))
def Env.put_self (O:Env)(lo:List Nat):O.put [] [] lo (lo.map O.o)=O:=by
 have h2:∀u,putL O.o lo (lo.map O.o) u=O.o u:=λu=>by rw[uX];split<;>rfl
 show Env.mk O.r (putL O.o lo (lo.map O.o))=O;rw[funext h2]
def awf {N:Nat}(ed:gM C Z){g:Operand}{ps:Array Tmp}{ca cb:Code}(bG:xI C Z fn s n ids R N ca)(eD:xI C Z fn s n ids R N cb):xI C Z fn s n ids R N (.rangeFunc g ps ca cb):=by
 intro rm S r hr rd w0 σ0 wr O x a w gy hC hY fG hn hg he;simp only[comp] at hr;split at hr
 case h_2=>cases hr;exact absurd he (nu _ _ _ _)
 rename_i aa rr e l9 hu;split at hr
 case h_2=>cases hr;exact absurd he (nu _ _ _ _)
 rename_i ys oF;split at hr
 case h_2=>cases hr;exact absurd he (nu _ _ _ _)
 rename_i q hq;rw[qx] at hr;split at hr
 case isFalse=>cases hr;exact absurd he (nu _ _ _ _)
 rename_i yr;cases hr;simp only[ao] at yr;obtain⟨⟨⟨hl,bo⟩,af⟩,yN⟩:=yr;have hl:=ay hl;have yN:=jH yN;obtain⟨hrd,kl⟩:=gy rfl;subst hrd;obtain⟨hs,BX,_⟩:=Gp (C:=C) (w0:=w0) (σ0:=σ0) (ids:=ids) 8 hq;simp only[az] at hs;obtain⟨ra,SI,hs⟩:=hs;split at hs
 case h_2=>cases hs
 rename_i S1 hao hax;simp only[aB] at hs;obtain⟨rb,hrb,gV⟩:=hs;have hma:=vz ca SI;have hmb:=vz cb hrb;obtain⟨q1,q2⟩:=q;simp only at SI gV yN BX he ⊢;generalize pG:ae6 ids (q1::q2.ex.map (·.2)) q2.mo=lo at he;generalize vP:((pX cP q2.ex none).bind λM=>zL C fn s (M.st ids))=rt at he;have F1:∃f caps d,e.ev O=.clo f caps/\Z f caps=some d/\jn (q2.pc.ev Z N) (O.setR n d) ps.toList lo rt d.l (lo.map O.o)=some x:=by
  simp only[PC.ev,PI.runs,PI.run,holds,List.all_nil,zyy] at he;cases bL:e.ev O with
  |clo f caps=>
   rw[bL] at he;simp only[PE.evs,xB] at he;cases hΦ:Z f caps with
   |none=>rw[hΦ] at he;simp at he
   |some d=>
    rw[hΦ] at he;simp only[kG,pj,PE.ev,Env.setR,aN] at he;exact⟨f,caps,d,rfl,hΦ,he⟩
  |_=>rw[bL] at he;simp at he
 obtain⟨f,caps,d,bL,hΦ,he⟩:=F1;obtain⟨V,own,hv,i⟩:=hg;have hx:=cw (gs:=[]) i hC rfl hu;rw[bL] at hx;generalize RZ:a.eval g=gv at hx;generalize bq:Ty.fn aa rr=ty at hx;cases hx with
 |fn f cs vs ds eP h1 h2 aK=>
 cases bq;obtain⟨hfn,aqx⟩:=ed f cs ys eP oF;obtain⟨xs,rfl,aGp,R0⟩:=aqx caps d hΦ;simp only[D.l_list] at he;obtain⟨m,nz,hm,eC,LH,lz⟩:=abR he;have iq0:=aez 8 hq i
 have iq:Inv C (q1.st ids) (O.setR n (.list xs)) V own hv w0 σ0 (λ_=>False) a w:=by
  refine iq0.env (Snap.noOpt _ _) (λt ht=>?_) (λ_ _=>rfl);have af:t<q1.rs.length:=by
   refine aay λhle=>?_;simp only[Snap.st,aE,j5 hle,Option.getD_none,cJ,isNone] at ht;cases ht
  simp[Env.setR,bA _ _ (show t≠n by omega)]
 obtain⟨ρ1,hρ1⟩:∃ρ1,O.setR n (.list xs)=ρ1:=⟨_,rfl⟩
 rw[hρ1] at he iq LH lz;have ko:O.o=ρ1.o:=by rw[<-hρ1];rfl
 rw[ko] at eC;refine wpIn_rangeFunc ?_;intro Ri aFO;obtain⟨L,acD⟩:∃L,w.heap.size+1=L:=⟨_,rfl⟩
 obtain⟨rec,jw⟩:∃rec:LoopState->Option Code->Loop,rec=λst pe=>{state:=st,pending:=pe,fn:=Ri,tmps:=a.tmps,params:=ps,assign:=ca,body:=cb,defers:=w.heap.size}:=⟨_,rfl⟩
 have i1:=iq.enter (rec .ready none);obtain⟨t,fx0,cx0,ac6,SP⟩:=iq.frame;have aqd:=σ0.lt _ _ _ _ ac6.F;have RW:=FrOK.enter iq ac6 (rec .ready none);have aGn:=iq.below.size;have BN:Free L (V.mark w.heap.size) own:=by
  refine⟨?_,λo=>?_,?_⟩
  .cases e:own L with
   |none=>rfl
   |some j=>have:=(iq.owns L j e).2.1;omega
  .cases e:V.c L o with
   |none=>exact e
   |some x=>have:=iq.lt e;omega
  .simp only[Im.mark,show L≠w.heap.size by omega,if_false];cases e:V.m L with
   |none=>rfl
   |some x=>have:=iq.ltm e;omega
 have lZ:V.le (V.mark w.heap.size):=by
  refine⟨λ_ _ _ e=>e,λk x e=>?_⟩;have:k≠w.heap.size:=by have:=iq.ltm e;omega
  simp[Im.mark,this,e]
 have hL1:((w.alloc (.deferred (some []))).alloc (.loop (rec .ready none))).heap[L]?=some (.loop (rec .ready none)):=by
  have:=World.alloc_heap_new (w.alloc (.deferred (some []))) (.loop (rec .ready none));rw[World.size_alloc,acD] at this;exact this
 obtain⟨W1,RA⟩:∃W1,(w.alloc (.deferred (some []))).alloc (.loop (rec .ready none))=W1:=⟨_,rfl⟩
 have aFH:W1.heap.size=w.heap.size+2:=by rw[<-RA];simp
 rw[RA] at i1 RW hL1;have RS:(Instr.enterLoop Ri a.tmps ps ca cb none).run C.P w=.ok (L,[{target:=.collected w.heap.size,args:=#[]}]) W1:=by
  rw[<-RA,jw,<-acD];exact run_enterLoop_outer _ _ _ _ _
 obtain⟨σ1,hσ1⟩:∃σ1,V.mark w.heap.size=σ1:=⟨_,rfl⟩
 rw[hσ1] at i1 RW BN lZ;obtain⟨aM,RB⟩:∃aM:Act,{a with defers:={target:=.collected w.heap.size,args:=#[]}::a.defers}=aM:=⟨_,rfl⟩
 have Fi:aM.tmps=a.tmps:=by rw[<-RB]
 rw[RB] at i1;have iR:=i1.toRnd (t:=t) (X:=λk=>k=L) SP;obtain⟨σR,hσR⟩:∃σR,σ0.rnd σ1 own W1 t (λk=>k=L)=σR:=⟨_,rfl⟩
 have vF:∀t' f c w',σR.F t' f c w'->(∀k,f k->k<W1.heap.size/\k≠L)/\∀k,c k->f k/\(∀o,σ1.c k o=none)/\σ1.m k=none:=by
  rw[<-hσR];rintro t' f c w' ⟨_,h2,h3,_⟩;exact⟨λk hk=>⟨((h2 k).1 hk).1,((h2 k).1 hk).2.2.2⟩,λk hk=>(h3 k).1 hk⟩
 have hRC:CtxOK C σR:=by rw[<-hσR];exact hC.mono i1.le
 rw[hσR] at iR
 obtain⟨P,hP⟩:∃P:Nat->List D->Snap->LoopState->Option Code->Prop,P=λi vo Sx st pe=>(i<=m/\vo=nz i/\Sx=q1/\st=.ready/\pe=none)\/
  (i=m+1/\m<xs.length/\st=.done/\∃y id O',xs[m]?=some y/\q2.pc.ev Z N (ρ1.put ps.toList (partsOf ps.toList y) lo (nz m))=some (.exit id O')/\vo=lo.map O'.o/\(id,Sx)∈q2.ex/\((id≠cP/\pe=some (.exit id))\/(id=cP/\pe=some .ret))):=⟨_,rfl⟩
 obtain⟨c1,c2⟩:=awe (C:=C) (w:=W1) (L:=L) hfn RZ;refine⟨L,[{target:=.collected w.heap.size,args:=#[]}],W1,_,W1,f,_,W1,RS,c1,λ_ _=>trivial,c2,(λe=>by cases e),?_⟩
 refine abb ((R0 σ1 W1 (.func (.yield L) #[] #[]) vs (RSt C w0 σR ids ρ1 lo aM L W1 σ1 rec xs P) (λk=>k<W1.heap.size) (λk=>(∃j,own k=some j)\/k=L) m i1.ok (hC.mono i1.le) ⟨h1,h2,λj t e=>(aK j t e).mono lZ⟩ hm
  (λt f c w h=>h.lt) (λt f c w h=>h.sub) (λt f c w w' h hb hs=>h.keep (by omega) (by omega) (λt f c w hF k hk=>((vF t f c w hF).1 k hk).1) hb hs) ?_ ?_ ?_ ?_).mono ?_)
 .refine⟨λk hk=>hk,λk hk=>?_,λk hk=>hk,0,nz 0,q1,.ready,none,σ1,own,hv,by simp,by rw[hP];exact .inl ⟨jI _,rfl,rfl,rfl,rfl⟩,?_,.refl σ1,BN,hL1,λk j e=>(iR.owns k j e).2.1,λk o x e=>iR.lt e,λk x e=>iR.ltm e,λk=>.rfl⟩
  .rcases hk with⟨j,e⟩|e
   .exact(iR.owns k j e).2.1
   .show k<W1.heap.size;omega
  .rw[eC,Env.put_self];exact iR
 .rintro k o x e (⟨j,hj⟩|rfl)
  .have:=(iR.owns k j hj).2.2.1 o;rw[e] at this;cases this
  .rw[BN.c] at e;cases e
 .rintro k x e (⟨j,hj⟩|rfl)
  .have:=(iR.owns k j hj).2.2.2;rw[e] at this;cases this
  .rw[BN.m] at e;cases e
 .intro i fx cx w1 σx args ds' hi dI hF hσx jq jr oq dg cR rd' o a' x' aa ts K Q eA cv acN hK;have aFT:i<xs.length:=(eG.1 dI).1;obtain⟨i',vo,Sx,st,pe,σa,zo,hva,e1,e2,iA,LA,Fg,La,Sq,hcA,FK,BU⟩:=hF.ex;have hii:i'=i:=by
   have h9:=congrArg List.length (congrArg D.l e1);simp only[D.l_list,dL] at h9;omega
  subst hii;rw[hP] at e2;rcases e2 with⟨_,rfl,Fh,rfl,rfl⟩|⟨e2,_⟩
  case inr=>omega
  rw[Fh] at iA;have acE:L<w1.heap.size:=hF.lt L (hF.old L (by omega));have Ll:cx L:=(BU L).2 (.inr rfl)
  have aqW:∀k o v,σx.c k o=some v->zo k=none:=λk o v e=>by
   cases e2:zo k with
   |none=>rfl
   |some j=>exact absurd ((BU k).2 (.inl ⟨j,e2⟩)) (jr k o v e)
  have FO:∀k v,σx.m k=some v->zo k=none:=λk v e=>by
   cases e2:zo k with
   |none=>rfl
   |some j=>exact absurd ((BU k).2 (.inl ⟨j,e2⟩)) (oq k v e)
  have hτok:σx.noM.ok w1:=⟨hσx.c,λk v e=>hσx.m k v (Im.noM_m e).1,hσx.f⟩
  have iB:=iA.joinIm (τ:=σx.noM) hτok (λk e=>(Im.noM_m e).2 rfl) aqW (λk v e=>FO k v (Im.noM_m e).1)
   (λk o v e=>(dg k o v e).imp (λe=>LA.c k o v e) λe=>by omega) (λk v e=>(cR k v (Im.noM_m e).1).imp (λe=>LA.m k v e) λe=>by omega)
   (λt' f c hf=>⟨λk o v e hc=>by
        obtain⟨g1,g2,g3⟩:=(vF _ _ _ _ hf.F).2 k hc;rcases dg k o v e with e|e
        .rw[g2 o] at e;cases e
        .have:=((vF _ _ _ _ hf.F).1 k g1).1;omega,λk v e hc=>by
        obtain⟨g1,g2,g3⟩:=(vF _ _ _ _ hf.F).2 k hc;rcases cR k v (Im.noM_m e).1 with e|e
        .rw[g3] at e;cases e
        .have:=((vF _ _ _ _ hf.F).1 k g1).1;omega⟩)
  have hFB:Free L (σa.plus σx.noM) zo:=by
   refine⟨Fg.own,λo=>?_,?_⟩
   .cases e:(σa.plus σx.noM).c L o with
    |none=>rfl
    |some v=>
     rcases Im.plus_c e with e|e
     .rw[Fg.c] at e;cases e
     .exact absurd Ll (jr L o v e)
   .cases e:(σa.plus σx.noM).m L with
    |none=>rfl
    |some v=>
     rcases Im.plus_m e with e|e
     .rw[Fg.m] at e;cases e
     .exact absurd Ll (oq L v (Im.noM_m e).1)
  have sX:ps.toList.length=ys.length:=by rw[z7];exact hl.symm
  have apI:qv C (σa.plus σx.noM) ys args ds':=⟨jq.1,jq.2.1,λj t e=>((jq.2.2 j t e).noM).mono (Im.plus_le2 iA.ok hτok)⟩
  have iC:=iB.startR (O':=ρ1) sX bo (λp hp=>by
   have:=cN.1 af p hp;rw[Fi,hn];simpa [ph] using this) apI rfl
  have SD:∃xi,q2.pc.ev Z N (ρ1.put ps.toList (partsOf ps.toList (.tup ds')) lo (nz i'))=some xi/\((i'<m/\∃O',xi=.next O'/\lo.map O'.o=nz (i'+1))\/(i'=m/\m<xs.length/\∃id O',xi=.exit id O')):=by
   by_cases sS:i'<m
   .obtain⟨y,O',g1,g2,g3⟩:=LH i' sS;rw[dI] at g1;cases g1;exact⟨_,g2,.inl ⟨sS,O',rfl,g3⟩⟩
   .obtain rfl:i'=m:=by omega
    rcases lz with⟨g1,_⟩|⟨g1,y,id,O',g2,g3,_⟩
    .omega
    .rw[dI] at g2;cases g2;exact⟨_,g3,.inr ⟨rfl,g1,id,O',rfl⟩⟩
  obtain⟨xi,uO,Tb⟩:=SD;have ab:q2.pc=.seq ra.pc rb.pc:=by rw[<-gV];rfl
  rw[ab] at uO;have aJ:(np ps.toList args aM.tmps).size=n:=by rw[ajd,Fi,hn]
  refine⟨λ_ _=>trivial,?_⟩;rw[Oper.semAt_eq _ _ _ (λc e=>by rw[eA] at e;cases e)];have apJ:aa.size=ps.size:=by
   have:=jq.1;rw[<-acN,dY,z7] at this;omega
  have ak:=aAS (C:=C) eA cv La (by rw[jw];exact apJ);have arl:(rec .ready none).fn=Ri/\(rec .ready none).tmps=a.tmps/\(rec .ready none).params=ps/\(rec .ready none).assign=ca/\(rec .ready none).body=cb:=by rw[jw];exact⟨rfl,rfl,rfl,rfl,rfl⟩
  obtain⟨r1,r2,r3,r4,r5⟩:=arl;rw[r1,r2,r3,r4,r5] at ak
  have yP:(ps.zip (aa.map a'.eval)).foldl (λtmps (t,v)=>tmps.setIfInBounds t v) a.tmps=np ps.toList args aM.tmps:=by
   rw[Fi,<-acN,<-vg];exact aw7 ps (aa.map a'.eval) a.tmps
  rw[yP] at ak;rw[ak];refine⟨(λe=>by cases e),?_⟩;refine roundIn_of_wpIn (F:=FR rd') trivial ?_;show ca.wpIn (FR (some L)) 0 C.P _ _ _;cases mV:ra.pc.ev Z N (ρ1.put ps.toList (partsOf ps.toList (.tup ds')) lo (nz i')) with
  |none=>simp only[PC.ev,mV] at uO;cases uO
  |some xa=>
  refine wpIn_mono (ai7 bG SI l9 hRC iC (wr:=λt=>t∈cD ca) (λ_ h=>h) aJ mV L) λe2 a1 ZQ arx=>?_;obtain⟨ρ2,S2,σ2,jB,iy,iD,tc,ix,kP⟩:=arx;cases e2 with
  |normal=>
   obtain⟨rfl,BO⟩:=kP;rw[hao] at BO;cases BO;simp only[PC.ev,mV] at uO;have hL2:ZQ.heap[L]?=some (.loop (rec .ready none)):=(tc.same L acE hFB.own).trans La;have Rw:=hFB.seg acE tc;have Rx:L<ZQ.heap.size:=(ei.1 hL2).1;have K9:w0.heap.size<=L:=by omega
   refine⟨_,run_beginRound hL2 (by rw[jw]),?_⟩;have iE:=iD.putL K9 Rw (λt' f c hf Fx=>((vF _ _ _ _ hf.F).1 L Fx).2 rfl) (.loop {rec .ready none with state:=.busy});have hL3:(ZQ.putObj L (.loop {rec .ready none with state:=.busy})).heap[L]?=some (.loop {rec .ready none with state:=.busy}):=World.putObj_heap_same Rx;show cb.wpIn (FR (some L)) 0 C.P _ _ _;refine wpIn_mono (ai7 eD hrb l9 hRC iE (wr:=λt=>t∈cD cb) (λ_ h=>h) (ix.size.trans aJ) uO L) λe3 a3 w3 ary=>?_;obtain⟨ρ3,S3,σ3,zn,Ga,iF,LQ,arv,pJ⟩:=ary;have hL4:w3.heap[L]?=some (.loop {rec .ready none with state:=.busy}):=(LQ.same L (by simpa using Rx) Rw.own).trans hL3;have hF3:=Rw.seg (by simpa using Rx) LQ;have apt:L<w3.heap.size:=(ei.1 hL4).1;obtain⟨mk,vN⟩:∃mk,Nat.lor (zc (ps.toList++cD ca++cD cb)) (Nat.lor ra.mr rb.mr)=mk:=⟨_,rfl⟩
   have aqO:∀t,aR mk t=false->t∉ps.toList/\t∉cD ca/\t∉cD cb/\aR ra.mr t=false/\aR rb.mr t=false:=by
        intro t ht;rw[<-vN,gN,gN,aac,aac] at ht;obtain⟨t1,t2,t3⟩:=ht;have:t∉ps.toList++cD ca++cD cb:=λhm=>by rw[aa1 hm] at t1;cases t1
        simp only[dM,not_or] at this;exact⟨this.1.1,this.1.2,this.2,t2,t3⟩
   have SK:∀t,aR mk t=false->aM.tmps.getD t undef=a3.tmps.getD t undef/\(ρ1.put [] [] lo (lo.map ρ3.o)).r t=ρ3.r t:=by
        intro t ht;obtain⟨t1,t2,t3,t4,t5⟩:=aqO t ht;refine⟨?_,?_⟩
        .rw[arv.get t t3,ix.get t t2];exact(Od _ _ _ _ t1).symm
        .have RH:∀O',xi=.next O'\/(∃id,xi=.exit id O')->O'.r t=ρ2.r t:=λO' h=>by
          have yu:xi.env?=some O':=by rcases h with h|⟨id,h⟩<;>rw[h]<;>rfl
          exact(PC.ev_but rb.pc _ _ O' uO yu).r t λhm=>by rw[hmb.1 t hm] at t5;cases t5
         have db:ρ2.r t=putL ρ1.r ps.toList (partsOf ps.toList (.tup ds')) t:=(PC.ev_but ra.pc _ _ ρ2 mV rfl).r t λhm=>by rw[hma.1 t hm] at t4;cases t4
         rw[CL _ _ _ _ t1] at db;show ρ1.r t=ρ3.r t;rw[RH ρ3 (by
          cases e3 with
          |normal=>exact .inl pJ.1
          |exit id=>exact .inr ⟨id,pJ.1⟩
          |ret=>exact .inr ⟨_,pJ.1⟩
          |_=>exact pJ.elim),db]
   have Sd:q2.mo=j0 ra.mo rb.mo:=by rw[<-gV];rfl
   have Su:∀j,j∉q2.mo->ρ3.o j=ρ1.o j:=by
        intro j hj;rw[Sd,rH,not_or] at hj;have yu:xi.env?=some ρ3:=by
         cases e3 with
         |normal=>rw[pJ.1];rfl
         |exit id=>rw[pJ.1];rfl
         |ret=>rw[pJ.1];rfl
         |_=>exact pJ.elim
        rw[(PC.ev_but rb.pc _ _ ρ3 uO yu).o j λhm=>hj.2 (hmb.2 j hm),(PC.ev_but ra.pc _ _ ρ2 mV rfl).o j λhm=>hj.1 (hma.2 j hm)]
        exact CL _ _ _ _ λhm=>by
         rw[<-pG] at hm;have:=(eH.1 hm).1;rw[Sd,rH] at this;exact this.elim hj.1 hj.2
   have Ss:∀(S:Snap),S∈(q1::q2.ex.map (·.2))->∀j,pS ((S.st ids).o j)=false->(ρ1.put [] [] lo (lo.map ρ3.o)).o j=ρ3.o j:=by
        intro S hS j hj;show putL ρ1.o lo (lo.map ρ3.o) j=ρ3.o j;rw[uX];split
        .rfl
        .rename_i gS;refine(Su j λvK=>gS ?_).symm;rw[<-pG];exact eH.2 ⟨vK,xu.2 ⟨S,hS,by simpa [Snap.st] using hj⟩⟩
   have fin:∀(jump:Option Code) (Sx:Snap),Inv C (Sx.st ids) (ρ1.put [] [] lo (lo.map ρ3.o)) σ3 zn Ga w0 σR (λ_=>False) aM w3->P (i'+1) (lo.map ρ3.o) Sx (if jump.isNone then .ready else .done) jump->jump.isNone=decide (i'<m)->
        ∃v w',(Instr.endRound L jump).run C.P w3=.ok v w'/\K (a'.put o.dst v) w':=by
        intro jump Sx iG hPn vK;refine⟨_,_,run_endRound jump hL4,?_⟩;have ark:({{rec .ready none with state:=.busy} with state:=if jump.isNone then .ready else .done,pending:=jump}:Loop)=rec (if jump.isNone then .ready else .done) jump:=by rw[jw]
        rw[ark];have aK:=tc.round (L:=L) (o':=.loop (rec (if jump.isNone then .ready else .done) jump)) LQ;have iH:=iG.putL K9 hF3 (λt' f c hf Fx=>((vF _ _ _ _ hf.F).1 L Fx).2 rfl) (.loop (rec (if jump.isNone then .ready else .done) jump));obtain⟨w4,S8⟩:∃w4,w3.putObj L (.loop (rec (if jump.isNone then .ready else .done) jump))=w4:=⟨_,rfl⟩
        have hL5:w4.heap[L]?=some (.loop (rec (if jump.isNone then .ready else .done) jump)):=by rw[<-S8];exact World.putObj_heap_same apt
        have aGs:w4.heap.size=w3.heap.size:=by rw[<-S8];simp
        rw[S8] at aK iH ⊢;have aFG:W1.heap.size<=w1.heap.size:=by
         have:=hF.lt (W1.heap.size-1) (hF.old _ (by omega));omega
        have aGo:=aK.below.size
        refine hK _ _ ⟨by rw[vK],aK.below,λk hk hc=>aK.same k hk (by
         cases e:zo k with
         |none=>rfl
         |some j=>exact absurd ((BU k).2 (.inl ⟨j,e⟩)) hc) (λe=>hc (by rw[e];exact Ll)),(λk=>k<w4.heap.size/\(k<W1.heap.size\/(∃j,zn k=some j)\/(∃o x,σ3.c k o=some x)\/∃x,σ3.m k=some x)),(λk=>(∃j,zn k=some j)\/k=L),?_,?_,?_⟩
        .refine⟨λk hk=>hk.1,λk hk=>?_,λk hk=>⟨by omega,.inl hk⟩,i'+1,lo.map ρ3.o,Sx,_,jump,σ3,zn,Ga,rfl,hPn,iH,LA.trans ((Im.plus_le1 _ _).trans aK.le),hF3,hL5,λk j e=>⟨(iH.owns k j e).2.1,.inr (.inl ⟨j,e⟩)⟩,λk o x e=>⟨iH.lt e,.inr (.inr (.inl ⟨o,x,e⟩))⟩,λk x e=>⟨iH.ltm e,.inr (.inr (.inr ⟨x,e⟩))⟩,λk=>.rfl⟩;rcases hk with⟨j,e⟩|e
         .exact⟨(iH.owns k j e).2.1,.inr (.inl ⟨j,e⟩)⟩
         .exact⟨by omega,.inl (by omega)⟩
        .rintro k ⟨_,hk⟩ bC
         have FD:((∃o x,σ3.c k o=some x)\/∃x,σ3.m k=some x)->fx k\/(∃o x,σx.c k o=some x)\/(∃x,σx.m k=some x/\x≠cC):=λh=>by
          rcases aK.imm k h with⟨o,x,e⟩|⟨x,e⟩|⟨j,e⟩|e
          .rcases Im.plus_c e with e|e
           .exact .inl (hcA k o x e)
           .exact .inr (.inl ⟨o,x,e⟩)
          .rcases Im.plus_m e with e|e
           .exact .inl (FK k x e)
           .exact .inr (.inr ⟨x,(Im.noM_m e).1,(Im.noM_m e).2⟩)
          .exact .inl (Sq k j e)
          .omega
         rcases hk with hk|⟨j,e⟩|e|e
         .exact .inl (hF.old k hk)
         .rcases aK.ow k j e with⟨j',e⟩|e
          .exact .inl (Sq k j' e)
          .omega
         .exact FD (.inl e)
         .exact FD (.inr e)
        .rintro k (⟨j,e⟩|e) bC
         .rcases aK.ow k j e with⟨j',e⟩|e
          .exact(BU k).2 (.inl ⟨j',e⟩)
          .omega
         .rw[e];exact Ll
   have pC:lh σ3 w0.heap.size aM.defers:=iA.defers.mono ((Im.plus_le1 _ _).trans (tc.le.trans LQ.le));have SF:q2.out=rb.out.map (Snap.mask mk)/\q2.ex=rb.ex.map (λx=>(x.1,x.2.mask mk)):=by rw[<-gV,<-vN];exact⟨rfl,rfl⟩
   cases e3 with
   |normal=>
    obtain⟨e4,e5⟩:=pJ;have hT:q2.out=some (S3.mask mk):=by rw[SF.1,e5];rfl
    have ac7:=BX _ hT
    have iG:Inv C (q1.st ids) ρ3 σ3 zn Ga w0 σR (λ_=>False) a3 w3:=by
        have:=Snap.meet_ok2 (x:=q1) (iF.maskR mk)
        rwa [ac7] at this
    have iH:=iG.restore (O':=ρ1.put [] [] lo (lo.map ρ3.o)) (a':=aM) (Snap.noOpt _ _) pC (λt ht=>SK t (by
        cases e:aR mk t with
        |false=>rfl
        |true=>
         have h9:=aui (x:=q1) (S:=S3) (ids:=ids) e;rw[ac7] at h9;rw[h9] at ht;cases ht)) (λj hj=>Ss q1 (fO ..) j hj)
    rcases Tb with⟨sS,O',e6,e7⟩|⟨_,_,id,O',e6⟩
    .rw[e4] at e6;cases e6;exact fin none q1 iH (by rw[hP];exact .inl ⟨by omega,e7,rfl,rfl,rfl⟩) (by simp[sS])
    .rw[e4] at e6;cases e6
   |exit id=>
    obtain⟨e4,e5,e6⟩:=pJ;have cQ:(id,S3.mask mk)∈q2.ex:=by rw[SF.2];exact cr.2 ⟨_,e6,rfl⟩
    have iH:=(iF.maskR mk).restore (O':=ρ1.put [] [] lo (lo.map ρ3.o)) (a':=aM) (Snap.noOpt _ _) pC (λt ht=>SK t (by
        cases e:aR mk t with
        |false=>rfl
        |true=>rw[Gy,if_pos e] at ht;cases ht)) (λj hj=>Ss (S3.mask mk) (fo _ (cr.2 ⟨_,cQ,rfl⟩)) j hj)
    rcases Tb with⟨sS,O',e7,_⟩|⟨sS,rq,bQ,O',e7⟩
    .rw[e4] at e7;cases e7
    .subst sS;refine fin (some (.exit id)) (S3.mask mk) iH ?_ (by simp);rw[hP];refine .inr ⟨rfl,rq,rfl,_,id,ρ3,dI,?_,rfl,cQ,.inl ⟨e5,rfl⟩⟩;rw[ab];simp only[PC.ev,mV];rw[uO,e4]
   |ret=>
    obtain⟨e4,e6⟩:=pJ;have cQ:(cP,S3.mask mk)∈q2.ex:=by rw[SF.2];exact cr.2 ⟨_,e6,rfl⟩
    have iH:=(iF.maskR mk).restore (O':=ρ1.put [] [] lo (lo.map ρ3.o)) (a':=aM) (Snap.noOpt _ _) pC (λt ht=>SK t (by
        cases e:aR mk t with
        |false=>rfl
        |true=>rw[Gy,if_pos e] at ht;cases ht)) (λj hj=>Ss (S3.mask mk) (fo _ (cr.2 ⟨_,cQ,rfl⟩)) j hj)
    rcases Tb with⟨sS,O',e7,_⟩|⟨sS,rq,bQ,O',e7⟩
    .rw[e4] at e7;cases e7
    .subst sS;refine fin (some .ret) (S3.mask mk) iH ?_ (by simp);rw[hP];refine .inr ⟨rfl,rq,rfl,_,cP,ρ3,dI,?_,rfl,cQ,.inr ⟨rfl,rfl⟩⟩;rw[ab];simp only[PC.ev,mV];rw[uO,e4]
   |_=>exact pJ.elim
  |exit id=>obtain⟨_,_,e6⟩:=kP;rw[hax] at e6;cases e6
  |ret=>obtain⟨_,e6⟩:=kP;rw[hax] at e6;cases e6
  |_=>exact kP.elim
 .rintro e' w' ⟨⟨v,rfl⟩,fx,cx,hF⟩;rw[show({tmps:=a.tmps,defers:=[{target:=Target.collected w.heap.size,args:=#[]}]++a.defers}:Act)=aM from RB];obtain⟨i',vo,Sx,st,pe,σa,zo,hva,e1,e2,iA,LA,Fg,La,Sq,hcA,FK,BU⟩:=hF.ex;have h9:=congrArg List.length (congrArg D.l e1);simp only[D.l_list,dL] at h9;have cI:(rec st pe).state≠.busy:=by
   rw[hP] at e2;rw[jw];rcases e2 with⟨_,_,_,e3,_⟩|⟨_,_,e3,_⟩<;>(rw[e3];intro e;cases e)
  have oB:(rec st pe).pending=pe:=by rw[jw]
  have RT:(Instr.endLoop L).run C.P w'=.ok pe (w'.putObj L (.loop {rec st pe with state:=.exhausted})):=(run_endLoop (P:=C.P) La cI).trans (congrArg (λz=>Result.ok z _) oB);have iF:=iA.putL (by omega:w0.heap.size<=L) Fg (λt' f c hf Fx=>((vF _ _ _ _ hf.F).1 L Fx).2 rfl) (.loop {rec st pe with state:=.exhausted});rw[<-hσR] at iF;have iG:=i1.ofRnd RW (λk hk e=>by have:=aqd k hk;omega) iF;have kQ:SameBut wr a aM:=⟨by rw[Fi],λt _=>by rw[Fi]⟩
  refine⟨pe,_,RT,?_⟩;rw[hP] at e2;rcases e2 with⟨e3,rfl,Fh,_,rfl⟩|⟨rfl,rq,_,y,id,O',g1,g2,rfl,g4,g5⟩
  .rcases lz with⟨g1,g2⟩|⟨g1,_⟩
   .obtain rfl:i'=m:=by omega
    rw[Fh] at iG;exact⟨_,q1,g2,rfl,kQ,_,_,_,iG⟩
   .omega
  .rcases lz with⟨g6,_⟩|⟨_,y',bQ,O'',k1,k2,k3⟩
   .omega
   .rw[g1] at k1;cases k1;rw[g2] at k2;cases k2;rcases k3 with⟨k3,k4⟩|⟨k3,pe',k4,k5⟩
    .rcases g5 with⟨_,rfl⟩|⟨g5,_⟩
     .exact wpIn_exit ⟨_,Sx,k4,k3,eH.2 ⟨g4,by simp[fp k3]⟩,kQ,_,_,_,iG⟩
     .exact absurd g5 k3
    .rcases g5 with⟨g5,_⟩|⟨_,rfl⟩
     .exact absurd k3 g5
     .subst k3;rw[<-vP,az] at k4;obtain⟨M,hM,SJ⟩:=k4;obtain⟨M',hM',uG⟩:=TH (⟨_,_,_,iG⟩:Good C w0 σ0 (Sx.st ids) _ (λ_=>False) aM _) q2.ex none g4;rw[hM] at hM';cases hM';obtain⟨σm,aHo,hvm,im⟩:=uG;exact wpIn_ret ⟨_,k5,Inv.retD hC (λ_=>rfl) kl SJ _ im rfl,kQ⟩
def afa {arr:Array MapEntry}{clock:Nat}(hb:nC arr clock){idx:List Nat}(hi:∀i,i∈idx->i<arr.size){i:Nat}{e:MapEntry}(he:arr[i]?=some e):(gG arr idx).contains e.born=true↔i∈idx:=by
 simp only[gG,List.contains_toArray,List.contains_iff_mem,cr];constructor
 .rintro⟨j,hj,h⟩;have af:=hi j hj;rw[iM af] at h;simp only at h;have:=hb.2 j i arr[j] e (iM af) he h;rw[<-this];exact hj
 .intro h;exact⟨i,h,by rw[he]⟩
def aw2 (arr:Array MapEntry)(idx:List Nat){i:Nat}{e:MapEntry}(he:arr[i]?=some e):(gG arr idx).push e.born=gG arr (idx++[i]):=by
 simp[gG,he]
def aup {P:Program}{w:World}{k m:Nat}{arr:Array MapEntry}{clock:Nat}{idx:List Nat}(hk:w.heap[k]?=some (.mapIter (some m) clock (gG arr idx) clock))(hm:w.heap[m]?=some (.map arr clock))(hb:nC arr clock)(hi:∀i,i∈idx->i<arr.size)(T:TypeId):
 ∃w1:World,(w1=w\/w1=w.drew)/\(((∀i,i<arr.size->i∈idx)/\(Instr.next (.pointer (some ⟨k,0,none⟩)) false T).run P w=.ok (.tuple #[.bool false]) w1)\/
  ∃i e,arr[i]?=some e/\i∉idx/\(Instr.next (.pointer (some ⟨k,0,none⟩)) false T).run P w=.ok (.tuple #[.bool true,e.key,e.val]) {w1 with heap:=w1.heap.setIfInBounds k (.mapIter (some m) clock (gG arr (idx++[i])) clock)}):=by
 have cQ:∀{e:MapEntry},e∈arr->∃i:Nat,arr[i]?=some e:=λhe=>by
  obtain⟨i,hi,rfl⟩:=Array.mem_iff_getElem.1 he;exact⟨i,iM hi⟩
 have hold:∀(l:Array MapEntry),(∀e,e∈l->e.born<clock)->l.filter (λx=>decide (x.born<clock))=l:=λl h=>by
  rw[Array.filter_eq_self];intro e he;simpa using h e he
 have l5:∀(l:Array MapEntry),(∀e,e∈l->e.born<clock)->l.filter (λx=>decide (x.born>=clock))=#[]:=λl h=>by
  rw[Array.filter_eq_empty_iff];intro e he;have:=h e he;simp;omega
 have RI:∀e,e∈arr->e.born<clock:=λe he=>by obtain⟨i,hi⟩:=cQ he;exact hb.1 i e hi
 have ki:(!(gG arr idx).isEmpty&& !arr.isEmpty&&arr.all (λx=>decide (x.born>=clock)))=false:=by
  cases ha:arr.isEmpty
  .have au:arr.size≠0:=by simpa using ha
   have:arr.all (λx=>decide (x.born>=clock))=false:=by
        rw[aab];intro h;rw[Array.all_eq_true] at h;have h0:=h 0 (by omega);have h1:=RI arr[0] (Z8 _);simp at h0;omega
   rw[this,z8]
  .simp
 let left:=arr.filter λe=> !(gG arr idx).contains e.born
 have hl:∀e,e∈left->e.born<clock:=λe he=>RI e (Z9.1 he).1;by_cases hz:left.size=0
 .refine⟨w,.inl rfl,.inl ⟨λi af=>?_,?_⟩⟩
  .by_cases bP:i∈idx
   .exact bP
   .exfalso;have LB:arr[i]∈left:=Z9.2 ⟨Z8 _,by
     have:=afa hb hi (iM af);cases hc:(gG arr idx).contains arr[i].born with
     |false=>rfl
     |true=>exact absurd (this.1 hc) bP⟩
    have:left=#[]:=OV hz;rw[this] at LB;simp at LB
  .have he:left=#[]:=OV hz;have uE:arr.filter (λe=> !(gG arr idx).contains e.born)=#[]:=he;simp only[Instr.next,getObj,Sem.run_bind,Sem.run,hk,hm,Result.andThen_ok,ki,uE];simp[Question.forced,Sem.run]
 .have rk:left.filter (λx=>decide (x.born<clock))=left:=hold left hl;have Fv:left.filter (λx=>decide (x.born>=clock))=#[]:=l5 left hl;have hem:left.isEmpty=false:=by simpa using hz
  have key:∀c,c<left.size->∃i e,arr[i]?=some e/\i∉idx/\left[c]?=some e:=λc hc=>by
   have LB:left[c]∈left:=Z8 _;obtain⟨h1,h2⟩:=Z9.1 LB;obtain⟨i,dc⟩:=cQ h1;refine⟨i,left[c],dc,λbP=>?_,iM hc⟩;rw[(afa hb hi dc).2 bP] at h2;cases h2
  obtain⟨w1,c,jb,hc,kN⟩:∃w1 c,(w1=w\/w1=w.drew)/\c<left.size/\(choose (.mapNext left.size)).run P w=.ok c w1:=by
   by_cases h1:left.size<=1
   .exact⟨w,0,.inl rfl,by omega,by simp[Question.forced,h1]⟩
   .exact⟨w.drew,_,.inr rfl,qB _ (by omega),by simp[Question.forced,h1,Question.cut];rfl⟩
  obtain⟨i,e,h1,h2,h3⟩:=key c hc;refine⟨w1,jb,.inr ⟨i,e,h1,h2,?_⟩⟩;have yD:arr.filter (λe=> !(gG arr idx).contains e.born)=left:=rfl;have jv:(getObj k).run P w=.ok (.mapIter (some m) clock (gG arr idx) clock) w:=by simp[getObj,Sem.run,hk]
  have iv:(getObj m).run P w=.ok (.map arr clock) w:=by simp[getObj,Sem.run,hm]
  have bC:w1.heap[k]?=some (.mapIter (some m) clock (gG arr idx) clock):=by rcases jb with rfl|rfl<;>exact hk
  have hg3:(setObj k (.mapIter (some m) clock ((gG arr idx).push e.born) clock)).run P w1=.ok () {w1 with heap:=w1.heap.setIfInBounds k (.mapIter (some m) clock ((gG arr idx).push e.born) clock)}:=by simp[setObj,Sem.run,bC]
  have apO:((if false=true then #[none] else #[])++Array.map some (left++#[]):Array (Option MapEntry))=left.map some:=by simp
  have jr:(left.map some)[c]?=some (some e):=by simp[h3]
  have ada:∀(Eo:Array (Option MapEntry)) (cc:Nat),(choose (.mapNext Eo.size)).run P w=.ok cc w1->Eo[cc]?=some (some e)->(do
        match Eo[<-choose (.mapNext Eo.size)]? with
        |some (some e)=>
         setObj k (.mapIter (some m) clock ((gG arr idx).push e.born) clock)
         pure (.tuple #[.bool true,e.key,e.val])
        |some none=>(pure (.tuple #[.bool false]):Sem Value)
        |none=>stuck "Next: no such candidate" :Sem Value).run P w=.ok (.tuple #[.bool true,e.key,e.val]) {w1 with heap:=w1.heap.setIfInBounds k (.mapIter (some m) clock ((gG arr idx).push e.born) clock)}:=by
   intro Eo cc h4 h5;rw[Sem.run_bind,h4];simp only[Result.andThen_ok,h5];rw[Sem.run_bind,hg3];rfl
  rw[aw2 arr idx h1] at ada hg3;have:=ada (left.map some) c (by rw[Array.size_map];exact kN) jr;simp only[Instr.next];rw[Sem.run_bind,jv];simp only[Result.andThen_ok];rw[Sem.run_bind,iv];simp only[Result.andThen_ok,ki,yD,rk,Fv,hem];rw[apO,if_neg (by decide)];exact this
def ant {P:Program}{w:World}{k m:Nat}{arr:Array MapEntry}{clock:Nat}{idx:List Nat}{i:Nat}{e:MapEntry}(hk:w.heap[k]?=some (.mapIter (some m) clock (gG arr (idx++[i])) clock))(hm:w.heap[m]?=some (.map arr clock))(hb:nC arr clock)(he:arr[i]?=some e):
 (Instr.entry (.pointer (some ⟨k,0,none⟩))).run P w=.ok (.tuple #[e.key,e.val]) w:=by
 have apL:(gG arr (idx++[i])).back?=some e.born:=by simp[gG,he]
 have Fy:arr.find? (λx=>x.born==e.born)=some e:=by
  have af:i<arr.size:=(ei.1 he).1;have hei:arr[i]=e:=(ei.1 he).2;rw[Array.find?_eq_some_iff_getElem];refine⟨by simp,i,af,hei,λj hj=>?_⟩;have gS:j<arr.size:=by omega
  cases hc:(arr[j].born==e.born) with
  |false=>rfl
  |true=>
   have:=hb.2 j i arr[j] e (iM gS) he (by simpa using hc);omega
 simp[Instr.entry,getObj,Sem.run_bind,Sem.run,hk,hm,apL,Fy]
def aub {x y z:Code}{k:Nat}{p:MP}(h:Cr x y k z=some p):∃i1 i2 o1 o2 o3 l,x=.region i1 p.ops1 false/\y=.cond (.tmp p.mo) .skip (.exit p.out)/\z=.region i2 p.ops2 false/\p.next=k/\p.ops1.toList=[o1,o2]/\p.ops2.toList=o3::l/\
 o1.dst=some p.nx/\o1.guard=none/\o1.op=.next (.tmp p.it) false/\o2.dst=some p.mo/\o2.guard=none/\o2.op=.extract (.tmp p.nx) 0/\o3.dst=some p.pr/\o3.guard=none/\o3.op=.entry (.tmp p.it)/\lN p.pr l []=some p.aa/\
 p.it≠p.nx/\p.it≠p.mo/\p.it≠p.pr/\p.nx≠p.mo/\p.out≠cP/\k≠cP:=by
 unfold Cr at h;split at h
 case h_2=>cases h
 rename_i i1 ops1 mo out i2 ops2;split at h
 case h_2=>cases h
 rename_i o1 o2 o3 l e1 e2;split at h
 case h_2=>cases h
 rename_i nx it mo' nx' pr it' d1 g1 q1 d2 g2 q2 d3 g3 q3;rw[qx] at h;split at h
 case isFalse=>cases h
 rename_i hc;simp only[aB] at h;obtain⟨aa,h4,rfl⟩:=h;simp only[ao,kD] at hc;obtain⟨⟨⟨⟨⟨⟨⟨⟨c1,c2⟩,c3⟩,c4⟩,c5⟩,c6⟩,c7⟩,c8⟩,c9⟩:=hc;have ne:∀{a b:Nat},Nat.beq a b=false->a≠b:=λh e=>by subst e;simp at h
 obtain rfl:=ay c1;obtain rfl:=ay c2;obtain rfl:=ay c3;exact⟨i1,i2,o1,o2,o3,l,rfl,rfl,rfl,rfl,e1,e2,d1,g1,q1,d2,g2,q2,d3,g3,q3,h4,ne c4,ne c5,ne c6,ne c7,ne c8,ne c9⟩
def MR {pr:Nat}:∀(l:List Oper) {acc aa:List (Nat×Nat)},lN pr l acc=some aa->∀x,x∈acc->x∈aa
 |[],acc,aa,h,x,hx=>by simp only[lN,ba] at h;subst h;exact hx
 |o::l,acc,aa,h,x,hx=>by
  simp only[lN] at h;split at h
  case h_2=>cases h
  rw[qx] at h;split at h
  .cases h
  split at h
  .rw[qx] at h;split at h
   .exact MR l h x (jm _ hx)
   .cases h
  .simp only[az] at h;obtain⟨i,_,h⟩:=h;exact MR l h x (jm _ hx)
  .simp only[az] at h;obtain⟨i,_,h⟩:=h;exact MR l h x (jm _ hx)
  .cases h
def Gv:∀{l:List (Nat×Nat)} {t i:Nat},wu l t=some i->(t,i)∈l
 |x::l,t,i,h=>by
  simp only[wu] at h;cases hb:Nat.beq x.1 t<;>simp only[hb,zyy,zyx] at h
  .exact fo _ (Gv h)
  .cases h;have:=ay hb;subst this;exact fO ..
def ae2:∀{l:List (Nat×Nat)} {t:Nat},(wu l t).isSome=false->∀x,x∈l->x.1≠t
 |y::l,t,h,x,hx=>by
  simp only[wu] at h;cases hb:Nat.beq y.1 t<;>simp only[hb,zyy,zyx] at h
  .rcases cA.1 hx with e|hx
   .subst e;intro e;subst e;simp at hb
   .exact ae2 h x hx
  .cases h
def UX {pr:Nat}:∀(l:List Oper) {acc aa:List (Nat×Nat)},lN pr l acc=some aa->(∀x,x∈acc->x.2<=1)->∀x,x∈aa->x∈acc\/(x.2<=1/\∃o,o∈l/\o.dst=some x.1)
 |[],acc,aa,h,_,x,hx=>by simp only[lN,ba] at h;subst h;exact .inl hx
 |o::l,acc,aa,h,ha,x,hx=>by
  simp only[lN] at h;split at h
  case h_2=>cases h
  rename_i d hd ou;rw[qx] at h;split at h
  .cases h
  have go:∀(pt:Nat),pt<=1->lN pr l (acc++[(d,pt)])=some aa->x∈acc\/(x.2<=1/\∃o',o'∈o::l/\o'.dst=some x.1):=by
   intro pt vO hp
   rcases UX l hp (λy hy=>by
        rcases dM.1 hy with h|h
        .exact ha y h
        .simp at h;subst h;exact vO) x hx with h|⟨h1,o',h2,h3⟩
   .rcases dM.1 h with h|h
    .exact .inl h
    .simp at h;subst h;exact .inr ⟨vO,o,fO ..,hd⟩
   .exact .inr ⟨h1,o',fo _ h2,h3⟩
  split at h
  .rw[qx] at h;split at h
   case isFalse=>cases h
   rename_i jr;simp only[ao] at jr;exact go _ (jH jr.2) h
  .simp only[az] at h;obtain⟨i,hi,h⟩:=h;exact go i (ha _ (Gv hi)) h
  .simp only[az] at h;obtain⟨i,hi,h⟩:=h;exact go i (ha _ (Gv hi)) h
  .cases h
def CE {P:Program}{ops:Array Oper}{i:Nat}{rest:List Nat}{o:Oper}{rd:Option Nat}{a:Act}{w w':World}{Q:Exit->Act->World->Prop}{v:Value}(ho:ops[i]?=some o)(hg:o.guard=none)(bo:tn o.op=true)(hx:(execOp a.eval o).run P w=.ok (.value v) w')
 (k:wpOpsIn (FR rd) 0 P ops Q rest (a.put o.dst v) w'):wpOpsIn (FR rd) 0 P ops Q (i::rest) a w:=by
 simp only[wpOpsIn,ho];rw[if_pos (by simp[Region.wanted,hg])];exact ahl bo (by unfold Oper.wp;rw[hx];exact k)
def awX {ops:Array Oper}{o:Oper}(ho:o∈ops.toList)(a:Act)(v:Value):SameBut (Bx ops) a (a.put o.dst v):=by
 have:=SameBut.put a o.dst v a.defers;exact this.mono λt e=>⟨o,ho,e⟩
def CM {a:Act}{d:Nat}{v:Value}(h:d<a.tmps.size):(a.put (some d) v).tmps.getD d undef=v:=by rw[zR];simp[h]
def M0 {a:Act}{d t:Nat}{v:Value}(h:t≠d):(a.put (some d) v).tmps.getD t undef=a.tmps.getD t undef:=by rw[zR];simp[h]
def put_defers (a:Act)(d:Option Nat)(v:Value):(a.put d v).defers=a.defers:=by cases d<;>rfl
def GJ (kv vv:Value)(i:Nat):Value:=if i=0 then kv else vv
def ahv {P:Program}{ops:Array Oper}{rd:Option Nat}{Q:Exit->Act->World->Prop}{pr:Nat}{kv vv:Value}{w:World}:∀(l:List Oper) (acc aa:List (Nat×Nat)) (i:Nat) (a:Act),lN pr l acc=some aa->ops.toList.drop i=l->(∀x,x∈aa->x.1<a.tmps.size)->a.tmps.getD pr undef=.tuple #[kv,vv]->
 (∀x,x∈acc->a.tmps.getD x.1 undef=GJ kv vv x.2)->(∀a',SameBut (Bx ops) a a'->a'.defers=a.defers->(∀x,x∈aa->a'.tmps.getD x.1 undef=GJ kv vv x.2)->Q .normal a' w)->wpOpsIn (FR rd) 0 P ops Q (List.range' i (ops.size-i)) a w
 |[],acc,aa,i,a,h,hl,af,mT,Fj,hQ=>by
  simp only[lN,ba] at h;subst h;have:ops.size-i=0:=by
    have:=aal.1 hl;simp at this;omega
  rw[this];exact hQ a (.refl _ _) rfl Fj
 |o::l,acc,aa,i,a,h,hl,af,mT,Fj,hQ=>by
  have hi:i<ops.toList.length:=by
   refine aay λhle=>?_;rw[aal.2 hle] at hl;cases hl
  rw[akj hi] at hl;have ho:ops[i]?=some o:=by
   have:ops.toList[i]=o:=by injection hl
   rw[<-this];simp at hi ⊢
  have sU:ops.toList.drop (i+1)=l:=by injection hl
  have aJ:ops.size-i=(ops.size-(i+1))+1:=by simp at hi;omega
  rw[aJ,Pd];have cQ:o∈ops.toList:=by simpa using qw ho
  simp only[lN] at h;split at h
  case h_2=>cases h
  rename_i d hd ou;rw[qx] at h;split at h
  .cases h
  rename_i hc;simp only[kE,not_or,Bool.not_eq_true] at hc;have hdp:pr≠d:=λe=>by subst e;simp at hc
  have RP:∀x,x∈acc->x.1≠d:=ae2 hc.2;have go:∀(pt:Nat) (v:Value),lN pr l (acc++[(d,pt)])=some aa->tn o.op=true->v=GJ kv vv pt->(execOp a.eval o).run P w=.ok (.value v) w->wpOpsIn (FR rd) 0 P ops Q (i::List.range' (i+1) (ops.size-(i+1))) a w:=by
   intro pt v hp bo hv hx;have Ft:d<a.tmps.size:=af _ (MR l hp (d,pt) (by simp));refine CE ho ou bo hx ?_;have kQ:=awX cQ a v;rw[hd] at kQ ⊢;refine ahv l _ aa (i+1) _ hp sU (λx hx=>by rw[kQ.size];exact af x hx) (by rw[M0 hdp];exact mT) (λx hx=>?_) (λa' h1 h2 h3=>hQ a' (kQ.trans h1) (h2.trans (put_defers _ _ _)) h3);rcases dM.1 hx with hx|hx
   .rw[M0 (RP x hx)];exact Fj x hx
   .simp at hx;subst hx;rw[CM Ft];exact hv
  split at h
  .rename_i t pt e;rw[qx] at h;split at h
   case isFalse=>cases h
   rename_i jr;simp only[ao] at jr;have ht:=ay jr.1;have vO:=jH jr.2;subst ht;have bL:a.eval (.tmp t)=.tuple #[kv,vv]:=by simpa [Act.eval] using mT
   refine go pt (GJ kv vv pt) h (by rw[e];rfl) rfl ?_;rcases(by omega:pt=0\/pt=1) with rfl|rfl<;>simp[execOp,e,bL,Instr.extract,GJ]
  .rename_i t e;simp only[az] at h;obtain⟨pt,yD,h⟩:=h;have:=Fj _ (Gv yD);exact go pt (a.eval (.tmp t)) h (by rw[e];rfl) (by simpa [Act.eval] using this) (by simp[execOp,e])
  .rename_i t e;simp only[az] at h;obtain⟨pt,yD,h⟩:=h;have:=Fj _ (Gv yD);exact go pt (a.eval (.tmp t)) h (by rw[e];rfl) (by simpa [Act.eval] using this) (by simp[execOp,e])
  .cases h
def Tq (ids:List Nat)(J j:Nat)(S:Snap):((S.kill ids J).st ids).o j=if j=J then .dead else(S.st ids).o j:=by
 show dv ids (y4 ids J S.os) j=_;have:∀(is:List Nat) (os:List Ob),dv is (y4 is J os) j=if j=J then .dead else dv is os j:=by
  intro is
  induction is with
  |nil=>intro os;simp[y4,dv]
  |cons i is ih=>
   intro os;cases os with
   |nil=>simp[y4,dv]
   |cons o os=>
    simp only[y4,dv];cases hb:Nat.beq i j
    .simp only[zyx];exact ih os
    .have:=ay hb;subst this;simp only[zyy];by_cases dG:i=J
     .subst dG;simp
     .simp[fp dG,dG]
 exact this ids S.os
def aa5 {N:Nat}{id:Nat}(Lu:id≠cP){rm:Bool}{wr:Nat->Prop}{a:Act}{q:Res2}{x xi:Out}(sV:(∀t,t∈q.pc.modR->aR q.mr t=true)/\∀j,j∈q.pc.modO->j∈q.mo)(dI:q.pc.ev Z N O=some xi)(bL:(gO ids id q).pc.ev Z N O=some x){e:Exit}{a':Act}{w':World}
 (fW:ic C w0 σ0 ids fn s rm wr a q.out q.ex xi e a' w'):Exit.inBlock id (ic C w0 σ0 ids fn s rm wr a (gO ids id q).out (gO ids id q).ex x) e a' w':=by
 have vI:∀bQ S1,(bQ,S1)∈q.ex->bQ≠id->(bQ,S1)∈q.ex.filter λx=> !Nat.beq x.1 id:=λbQ S1 hm au=>eH.2 ⟨hm,by simp[fp au]⟩;have main:∀(o:Option Snap) (lr lo:List Nat),pX id q.ex q.out=o->(∀M,o=some M->lr=kV M q.mr/\lo=jR ids M q.mo)->(PC.block id lr lo q.pc).ev Z N O=some x->
        Exit.inBlock id (ic C w0 σ0 ids fn s rm wr a o (q.ex.filter λx=> !Nat.beq x.1 id) x) e a' w':=by
  intro o lr lo ho hl bL;simp only[PC.ev] at bL;rw[dI] at bL
  have fin:∀{ρ1:Env} {a':Act} {w':World},(∃M,o=some M/\Good C w0 σ0 (M.st ids) ρ1 (λ_=>False) a' w')->xi.env?=some ρ1->x=.next (O.join lr lo ρ1)->SameBut wr a a'->
   ic C w0 σ0 ids fn s rm wr a o (q.ex.filter λx=> !Nat.beq x.1 id) x .normal a' w':=by
        intro ρ1 a' w' hM yu hx dT;obtain⟨M,hM,uG⟩:=hM;obtain⟨l1,l2⟩:=hl M hM;subst l1 l2;exact⟨_,M,hx,hM,dT,uG.joined (PC.ev_but q.pc O _ ρ1 dI yu) sV.1 sV.2⟩
  cases e with
  |normal=>
   obtain⟨ρ1,S2,e1,e2,dT,iv⟩:=fW;subst e1;simp only[ba] at bL;refine fin ?_ rfl bL.symm dT;rw[e2] at ho;obtain⟨M,h1,h2⟩:=Mj (id:=id) q.ex iv;rw[ho] at h1;exact⟨M,h1,h2⟩
  |exit bQ=>
   obtain⟨ρ1,S2,e1,e0,e2,dT,iv⟩:=fW;subst e1;simp only at bL;show if bQ=id then _ else _;by_cases cL:bQ=id
   .subst cL;simp only[j9,zyy,ba] at bL;simp only[if_true];refine fin ?_ rfl bL.symm dT;rw[<-ho];exact TH iv q.ex q.out e2
   .simp only[fp cL,zyx,ba] at bL;subst bL;simp only[cL,if_false];exact⟨ρ1,S2,rfl,e0,vI _ _ e2 cL,dT,iv⟩
  |ret=>
   cases rm with
   |false=>
    have hy:=fW;obtain⟨d,e1,_⟩:=hy;subst e1;simp only[ba] at bL;subst bL;exact fW
   |true=>
    obtain⟨ρ1,S2,e1,e2,dT,iv⟩:=fW;subst e1;simp only[fp (λe=>Lu e.symm:cP≠id),zyx,ba] at bL;subst bL;exact⟨ρ1,S2,rfl,vI _ _ e2 (λe=>Lu e.symm),dT,iv⟩
  |_=>exact fW.elim
 unfold gO at bL ⊢;cases hm:pX id q.ex q.out with
 |none=>
  simp only[hm] at bL ⊢;exact main none [] [] hm (λM e=>by cases e) bL
 |some M=>
  simp only[hm] at bL ⊢;exact main (some M) _ _ hm (λM' e=>by cases e;exact⟨rfl,rfl⟩) bL
def aa3 {N id:Nat}{q:Res2}{x:Out}(bL:(gO ids id q).pc.ev Z N O=some x):∃xi,q.pc.ev Z N O=some xi:=by
 unfold gO at bL;cases hm:pX id q.ex q.out<;>simp only[hm,PC.ev] at bL<;>cases dI:q.pc.ev Z N O<;>first|exact⟨_,rfl⟩|(rw[dI] at bL;cases bL)
def ai5 {es:List (D×D)}{idx:List Nat}(hn:idx.Nodup)(af:∀i,i∈idx->i<es.length)(aK:∀i,i<es.length->i∈idx):(gZ es idx).Perm (je (.map es)):=by
 have h1:idx.Perm (List.range es.length):=by
  rw[List.perm_ext_iff_of_nodup hn aau];intro i;rw[fP];exact⟨af i,aK i⟩
 have h2:gZ es (List.range es.length)=je (.map es):=by
  refine O7 (by simp[gZ,je,D.m]) λi g1 g2=>?_;have hi:i<es.length:=by simpa [gZ] using g1
  simp[gZ,je,D.m,aW hi]
 rw[<-h2];exact h1.map _
def aw3 {es:List (D×D)}{idx:List Nat}(hn:idx.Nodup)(af:∀i,i∈idx->i<es.length):∃rest,(gZ es idx++rest).Perm (je (.map es)):=by
 refine⟨gZ es ((List.range es.length).filter λi=> !idx.contains i),?_⟩;have e:gZ es idx++gZ es ((List.range es.length).filter λi=> !idx.contains i)=gZ es (idx++(List.range es.length).filter λi=> !idx.contains i):=by simp[gZ]
 rw[e];refine ai5 ?_ (λi hi=>?_) (λi hi=>?_)
 .rw[IQ];refine⟨hn,aau.filter _,λa ha b hb e=>?_⟩;subst e;have:=(eH.1 hb).2;simp[ha] at this
 .rcases dM.1 hi with h|h
  .exact af i h
  .exact fP.1 (eH.1 h).1
 .by_cases h:i∈idx
  .exact jm _ h
  .exact jG _ (eH.2 ⟨fP.2 hi,by simp[h]⟩)
def ai6 (es:List (D×D))(idx:List Nat){i:Nat}{p:D×D}(h:es[i]?=some p):gZ es (idx++[i])=gZ es idx++[.tup [p.1,p.2]]:=by simp[gZ,h]
def aud {N:Nat}{x y z code:Code}{k:Nat}{p:MP}(hp:Cr x y k z=some p)(ihc:xI C Z fn s n ids R N code){rm:Bool}{S:Snap}{r:Res2}
 (hr:Cs ids n p (cD x++(cD y++(cD z++cD code))) (λS=>comp C fn s n ids R rm code S) S=some r) {rd:Option Nat} {wr:Nat->Prop} {x0:Out} (gy:rm=false->rd=none/\σ0.fin) (hC:CtxOK C σ0) (hY:tZ C Z w0 σ0)
 (fG:∀t,t∈cD (.loop (.seq x (.seq y (.block k (.seq z code)))))->wr t) (hn:a.tmps.size=n) (hg:Good C w0 σ0 (S.st ids) O (λ_=>False) a w) (he:r.pc.ev Z N O=some x0):
 (Code.loop (.seq x (.seq y (.block k (.seq z code))))).wpIn (FR rd) 0 C.P (ic C w0 σ0 ids fn s rm wr a r.out r.ex x0) a w:=by
 obtain⟨i1,i2,o1,o2,o3,l,rfl,rfl,rfl,hk,e1,e2,d1,g1,q1,d2,g2,q2,d3,g3,q3,oC,n1,n2,n3,n4,n5,n6⟩:=aub hp;subst hk;unfold Cs at hr;split at hr
 case h_2=>cases hr;exact absurd he (nu _ _ _ _)
 rename_i J hJ;split at hr
 case h_2=>cases hr;exact absurd he (nu _ _ _ _)
 rename_i kt et Ly;simp only at hr;split at hr
 case h_2=>cases hr;exact absurd he (nu _ _ _ _)
 rename_i q hq;rw[qx] at hr;split at hr
 case isFalse=>cases hr;exact absurd he (nu _ _ _ _)
 rename_i yr;cases hr;generalize LW:cD (.region i1 p.ops1 false)++(cD (.cond (.tmp p.mo) .skip (.exit p.out))++(cD (.region i2 p.ops2 false)++cD code))=ws at*;simp only[ao,kD] at yr;obtain⟨⟨⟨⟨⟨⟨⟨⟨c1,c2⟩,c3⟩,c4⟩,c5⟩,c6⟩,c7⟩,c8⟩,c9⟩:=yr;have hex:q.2.ex=[]:=aaq.1 c1;have acz:J∉q.2.mo:=λh=>by rw[(rG _ _).2 h] at c2;cases c2
 simp only[aeq,ao,kD] at c3;obtain⟨⟨c3a,c3b⟩,c3c⟩:=c3;have aro:q.1.rs.getD p.it .none=.obj J 0:=Sh.beq_eq _ _ c3a;have LI:dv ids q.1.os J=.it kt et:=Ob.beq_eq _ _ c3b;have arf:∀t,t∈p.aa.map (·.1)->t<n:=λt ht=>by have:=cN.1 c5 t ht;rwa [ph] at this
 have Sp:p.nx<n:=by rwa [ph] at c6
 have Sd:p.mo<n:=by rwa [ph] at c7
 have mT:p.pr<n:=by rwa [ph] at c8
 have FM:=ay c9;obtain⟨hs,BX,bP⟩:=Gp (C:=C) (w0:=w0) (σ0:=σ0) (ids:=ids) 8 hq;simp only[aB] at hs;obtain⟨q0,sY,gV⟩:=hs;obtain⟨qS,qR⟩:=q;simp only at*;subst gV;generalize hm:zc ws=m at*;generalize pG:jR ids qS (gO ids p.next q0).mo=lo at*;have Sf:=aa4 (ids:=ids) (id:=p.next) (vz code sY);have aqH:∀j,j∈lo->j∈(gO ids p.next q0).mo:=λj hj=>by rw[<-pG] at hj;exact Ct hj
 have aFA:J∉lo:=λh=>acz (aqH J h);have F1:∃Dy,MU ((gO ids p.next q0).pc.ev Z N) O J (p.aa.map (·.1)) (p.aa.map (·.2)) lo Dy/\x0=.exit p.out (O.put [] [] lo Dy):=by
  simp only[PC.ev] at he;cases mT:MV ((gO ids p.next q0).pc.ev Z N) O J (p.aa.map (·.1)) (p.aa.map (·.2)) lo with
  |none=>rw[mT] at he;cases he
  |some y=>
   obtain⟨Dy,h1,rfl⟩:=CJ.1 mT;rw[mT] at he;simp only[ba] at he;exact⟨Dy,h1,he.symm⟩
 obtain⟨Dy,⟨FV,apB⟩,hx0⟩:=F1;generalize ju:(O.o J).tget 1=es at*
 have jb:∀o,o∈p.ops1.toList->∀d,o.dst=some d->d∈ws:=λo ho d hd=>by
  rw[<-LW];exact jm _ (Aj.2 ⟨o,ho,hd⟩)
 have cT:∀o,o∈p.ops2.toList->∀d,o.dst=some d->d∈ws:=λo ho d hd=>by
  rw[<-LW];exact jG _ (jG _ (jm _ (Aj.2 ⟨o,ho,hd⟩)))
 have hwc:∀d,d∈cD code->d∈ws:=λd hd=>by
  rw[<-LW];exact jG _ (jG _ (jG _ hd))
 have S9:∀t,t∈ws->wr t:=λt ht=>fG t (by rw[<-LW] at ht;exact ht);have uN:∀t,t∈ws->aR m t=true:=λt ht=>by rw[<-hm];exact aa1 ht
 have Sc:∀t,aR m t=true->((qS.mask m).st ids).r t=.none:=λt ht=>by rw[Gy,if_pos ht]
 have aqN:∀t,isNone (((qS.mask m).st ids).r t)=false->aR m t=false:=λt ht=>by
  cases hb:aR m t with
  |false=>rfl
  |true=>rw[Sc t hb] at ht;cases ht
 have jO:((qS.mask m).st ids).r p.it=.obj J 0:=by
  rw[Gy,c3c];show cJ (qS.rs.getD p.it .none)=_;rw[aro];rfl
 have cS:((qS.mask m).st ids).o J=.it kt et:=LI;have ko:p.ops1[0]?=some o1:=by rw[<-oY,e1];rfl
 have fD:p.ops1[1]?=some o2:=by rw[<-oY,e1];rfl
 have ho3:p.ops2[0]?=some o3:=by rw[<-oY,e2];rfl
 have arL:List.range p.ops1.size=[0,1]:=by
  have:p.ops1.size=2:=by rw[<-z7,e1];rfl
  rw[this];rfl
 have vU:List.range p.ops2.size=0::List.range' 1 (p.ops2.size-1):=by
  have:p.ops2.size=l.length+1:=by rw[<-z7,e2];rfl
  rw[this,Pe,Pd];rfl
 have key:∀(kk:Nat) (done vo:List D) (a':Act) (w':World),SameBut wr a a'->Good C w0 σ0 ((qS.mask m).st ids) ((O.put [] [] lo vo).setO J (.tup [.list done,es])) (λ_=>False) a' w'->
  (∀ys,(done++ys).Perm (je es)->p8 ((gO ids p.next q0).pc.ev Z N) O J es (p.aa.map (·.1)) (p.aa.map (·.2)) lo ys done vo=some Dy)->done.length+kk=(je es).length+1->
  Code.roundsIn (FR rd) 0 C.P (.seq (.region i1 p.ops1 false) (.seq (.cond (.tmp p.mo) .skip (.exit p.out)) (.block p.next (.seq (.region i2 p.ops2 false) code)))) (ic C w0 σ0 ids fn s rm wr a none [(p.out,(qS.mask m).kill ids J)] x0) kk a' w':=by
  intro kk
  induction kk with
  |zero=>
   intro done vo a' w' _ ly _ hlen;exfalso;obtain⟨V,own,hv,h⟩:=ly;have bj:=h.objs J;rw[cS] at bj;obtain⟨kb,mb,arr,clock,fT,idx,h1,h2,h3,au,h4,h5,h6,h7,h8,h9,jo,uy⟩:=bj;simp only[Env.setO,aN] at h6;injection h6 with h6;injection h6 with yk ym;injection ym with ym _;injection yk with yk;subst yk;subst ym;have hle:idx.length<=arr.size:=by
        have:=List.Nodup.length_le_of_subset h7 (l₂:=List.range arr.size) (λi hi=>fP.2 (h8 i hi));simpa using this
   simp[gZ,je,D.m] at hlen;omega
  |succ kk ih=>
   intro done vo a' w' kQ ly aK hlen;rw[roundsIn_succ];obtain⟨V,own,hv,h⟩:=ly;have bj:=h.objs J;rw[cS] at bj;obtain⟨kb,mb,arr,clock,fT,idx,h1,h2,h3,au,h4,h5,h6,h7,h8,h9,jo,uy⟩:=bj;simp only[Env.setO,aN] at h6;injection h6 with h6;injection h6 with yk ym;injection ym with ym _;injection yk with yk;subst yk;subst ym;have gx:=h.regs p.it;rw[jO] at gx;have Lv:a'.eval (.tmp p.it)=.pointer (some ⟨kb,0,none⟩):=by
        have:=gx.2 rfl;simp only[Act.eval];rw[this];exact h1
   have vT:a'.tmps.size=n:=kQ.size.trans hn;obtain⟨w1,ad6,LH⟩:=aup (P:=C.P) h5 h4 jo h8 o1.type;have Gd:Below w'.heap.size w' w1:=by rcases ad6 with rfl|rfl;exact .refl _ _;exact⟨rfl,rfl,rfl,aX _,λ_ _=>rfl⟩
   have Cg:w1.heap=w'.heap:=by rcases ad6 with rfl|rfl<;>rfl
   have hkl:kb<w'.heap.size:=(h.owns kb J h2).2.1;have rq:mb<w'.heap.size:=(h.owns mb J h3).2.1;refine wpIn_seq (wpIn_region ?_);rw[arL];rcases LH with⟨RX,ak⟩|⟨i,e,uI,yy,ak⟩
   ·
        refine CE ko g1 (by rw[q1];rfl) (v:=.tuple #[.bool false]) (w':=w1) (by simp only[execOp,q1,Lv];simp[ak]) ?_;rw[d1]
        refine CE fD g2 (by rw[q2];rfl) (v:=.bool false) (w':=w1) (by
         have:(a'.put (some p.nx) (.tuple #[.bool false])).eval (.tmp p.nx)=.tuple #[.bool false]:=by simp only[Act.eval];exact CM (by omega)
         simp only[execOp,q2,this];simp[Instr.extract]) ?_
        rw[d2];simp only[wpOpsIn]
        have yO:SameBut (λt=>t∈ws) a' ((a'.put (some p.nx) (.tuple #[.bool false])).put (some p.mo) (.bool false)):=by
         have s1:=SameBut.put a' (some p.nx) (.tuple #[.bool false]) a'.defers;have s2:=SameBut.put (a'.put (some p.nx) (.tuple #[.bool false])) (some p.mo) (.bool false) (a'.put (some p.nx) (.tuple #[.bool false])).defers;exact(s1.mono λt e=>by cases e;exact jb o1 (by rw[e1];simp) _ d1).trans (s2.mono λt e=>by cases e;exact jb o2 (by rw[e1];simp) _ d2)
        generalize yo:(a'.put (some p.nx) (.tuple #[.bool false])).put (some p.mo) (.bool false)=a1 at yO;have Se:a1.eval (.tmp p.mo)=.bool false:=by
         rw[<-yo];simp only[Act.eval];exact CM (by rw[size_put];omega)
        have pC:a1.defers=a'.defers:=by rw[<-yo,put_defers,put_defers]
        refine wpIn_seq (wpIn_cond_false Se (wpIn_exit ?_));have yJ:(gZ fT idx++[]).Perm (je (.map fT)):=by
         rw[tU];exact ai5 h7 (λi hi=>by rw[h9];exact h8 i hi) (λi hi=>RX i (by omega))
        have ad5:=aK [] yJ;simp only[p8,ba] at ad5;subst ad5;refine⟨_,_,hx0,n5,Ak.2 rfl,kQ.trans (yO.mono S9),?_⟩;refine⟨V,own,hv,?_⟩
        refine h.step (S':=((qS.mask m).kill ids J).st ids) (O':=O.put [] [] lo vo) (A':=λ_=>False) (λj=>j=J) pC (.refl V) (h.ok.below Gd) (λ_ _ _ hx=>.inl hx) (λ_ _ hx=>.inl hx) (Gd.mono h.below.size) ⟨λ_=>aX _,λ_ _=>rfl⟩
         (λj hj=>⟨by rw[Tq,if_neg hj],by simp[Env.setO,bA _ _ hj],rfl,λb hb=>⟨hb,by rw[Cg]⟩⟩) (λj hj=>?_) (λb j hb=>?_) (λ_=>id) (λt=>?_) (λ_ hf=>hf.elim) (λb hb _=>by rw[Cg]) (λb j hb=>.inl ⟨j,hb⟩) (λj hj=>?_)
        .rw[Tq,if_pos hj];trivial
        .obtain⟨b1,b2,b3,b4⟩:=h.owns b j hb;exact⟨b1,by rw[Cg];exact b2,b3,b4⟩
        .by_cases ht:t∈ws
         .refine .inr ⟨?_,λgs s' e=>absurd e (Snap.noOpt _ _ t gs s')⟩;have:(((qS.mask m).kill ids J).st ids).r t=.none:=Sc t (uN t ht);rw[this];trivial
         .exact .inl ⟨rfl,yO.get t ht,rfl⟩
        .rw[Tq,if_pos hj];intro e;cases e
   ·
        obtain⟨pd,SB⟩:∃pd,fT[i]?=some pd:=⟨_,aW (by rw[h9];exact(ei.1 uI).1)⟩
        obtain⟨bC,cE⟩:=uy i e pd uI SB;generalize Ch:({w1 with heap:=w1.heap.setIfInBounds kb (.mapIter (some mb) clock (gG arr (idx++[i])) clock)}:World)=w2 at ak;have ad7:w2.heap[kb]?=some (.mapIter (some mb) clock (gG arr (idx++[i])) clock):=by rw[<-Ch];simp[Cg,hkl]
        have yV:∀b,b≠kb->w2.heap[b]?=w'.heap[b]?:=λb hb=>by rw[<-Ch];simp only[Cg];rw[Z7 (vm hb)]
        have aGr:w2.heap.size=w'.heap.size:=by rw[<-Ch];simp[Cg]
        have ad8:w2.heap[mb]?=some (.map arr clock):=by rw[yV mb (vm au)];exact h4
        refine CE ko g1 (by rw[q1];rfl) (v:=.tuple #[.bool true,e.key,e.val]) (w':=w2) (by simp only[execOp,q1,Lv];simp[ak]) ?_;rw[d1]
        refine CE fD g2 (by rw[q2];rfl) (v:=.bool true) (w':=w2) (by
         have:(a'.put (some p.nx) (.tuple #[.bool true,e.key,e.val])).eval (.tmp p.nx)=.tuple #[.bool true,e.key,e.val]:=by simp only[Act.eval];exact CM (by omega)
         simp only[execOp,q2,this];simp[Instr.extract]) ?_
        rw[d2];simp only[wpOpsIn]
        have yO:SameBut (λt=>t∈ws) a' ((a'.put (some p.nx) (.tuple #[.bool true,e.key,e.val])).put (some p.mo) (.bool true)):=by
         have s1:=SameBut.put a' (some p.nx) (.tuple #[.bool true,e.key,e.val]) a'.defers;have s2:=SameBut.put (a'.put (some p.nx) (.tuple #[.bool true,e.key,e.val])) (some p.mo) (.bool true) (a'.put (some p.nx) (.tuple #[.bool true,e.key,e.val])).defers;exact(s1.mono λt e=>by cases e;exact jb o1 (by rw[e1];simp) _ d1).trans (s2.mono λt e=>by cases e;exact jb o2 (by rw[e1];simp) _ d2)
        have adj:(((a'.put (some p.nx) (.tuple #[.bool true,e.key,e.val])).put (some p.mo) (.bool true))).eval (.tmp p.it)=.pointer (some ⟨kb,0,none⟩):=by
         simp only[Act.eval] at Lv ⊢;rw[M0 n2,M0 n1];exact Lv
        generalize yo:(a'.put (some p.nx) (.tuple #[.bool true,e.key,e.val])).put (some p.mo) (.bool true)=a1 at yO adj;have Se:a1.eval (.tmp p.mo)=.bool true:=by
         rw[<-yo];simp only[Act.eval];exact CM (by rw[size_put];omega)
        have pC:a1.defers=a'.defers:=by rw[<-yo,put_defers,put_defers]
        refine wpIn_seq (wpIn_cond_true Se (wpIn_skip ?_));refine wpIn_block (wpIn_seq (wpIn_region ?_));rw[vU];refine CE ho3 g3 (by rw[q3];rfl) (v:=.tuple #[e.key,e.val]) (w':=w2) (by simp only[execOp,q3,adj];simp[ant ad7 ad8 jo uI]) ?_;rw[d3]
        have hs3:SameBut (λt=>t∈ws) a1 (a1.put (some p.pr) (.tuple #[e.key,e.val])):=
         (SameBut.put a1 (some p.pr) (.tuple #[e.key,e.val]) a1.defers).mono λt e=>by cases e;exact cT o3 (by rw[e2];simp) _ d3
        have adX:a1.tmps.size=n:=yO.size.trans vT;refine ahv (kv:=e.key) (vv:=e.val) l [] p.aa 1 _ oC (by rw[e2];rfl) (λx hx=>by rw[hs3.size,adX];exact arf _ (cr.2 ⟨x,hx,rfl⟩)) (CM (by rw[adX];exact mT)) (λx hx=>by cases hx) (λa2 dT dQ ara=>?_);have SM:SameBut (λt=>t∈ws) a' a2:=(yO.trans hs3).trans (dT.mono λt ⟨o,ho,hd⟩=>cT o ho t hd);have apY:a2.defers=a'.defers:=by rw[dQ,put_defers,pC]
        have arH:Good C w0 σ0 (((qS.mask m).start (p.aa.map (·.1)) (p.aa.map λx=>bif Nat.beq x.2 0 then kt else et)).st ids) ((O.put (p.aa.map (·.1)) ((p.aa.map (·.2)).map (D.tup [pd.1,pd.2]).tget) lo vo).setO J (.tup [.list (gZ fT idx++[.tup [pd.1,pd.2]]),.map fT])) (λ_=>False) a2 w2:=by
         have Fo:Below w0.heap.size w' w2:=⟨by rw[<-Ch];exact Gd.os,by rw[<-Ch];exact Gd.tape,by rw[<-Ch];exact Gd.output,by omega,λb hb=>yV b (λe=>by subst e;have:=(h.owns b J h2).1;omega)⟩
         have kq:V.ok w2:=by
          refine⟨λb o v hc=>?_,λb es hc=>?_,h.ok.fz λb o v hc=>yV b λe=>by subst e;rw[(h.owns b J h2).2.2.1 o] at hc;cases hc⟩
          .have iW:b≠kb:=λe=>by subst e;rw[(h.owns b J h2).2.2.1 o] at hc;cases hc
           have:=h.ok.c b o v hc;simp only[World.cell?] at this ⊢;rw[yV b iW];exact this
          .have iW:b≠kb:=λe=>by subst e;rw[(h.owns b J h2).2.2.2] at hc;cases hc
           exact(h.ok.m b es hc).keep (yV b iW)
         have fW:∀j,((O.put (p.aa.map (·.1)) ((p.aa.map (·.2)).map (D.tup [pd.1,pd.2]).tget) lo vo).setO J (.tup [.list (gZ fT idx++[.tup [pd.1,pd.2]]),.map fT])).o j=if j=J then .tup [.list (gZ fT idx++[.tup [pd.1,pd.2]]),.map fT] else putL O.o lo vo j:=λj=>by
          simp only[Env.setO,fj];rfl
         refine⟨V,own,hv,h.step (λj=>j=J) apY (.refl V) kq (λ_ _ _ hx=>.inl hx) (λ_ _ hx=>.inl hx) Fo ⟨λ_=>aX _,λ_ _=>rfl⟩
          (λj hj=>⟨rfl,by rw[fW,if_neg hj];simp[Env.setO,bA _ _ hj,Env.put],rfl,λb hb=>⟨hb,yV b (λe=>by subst e;rw[h2] at hb;cases hb;exact hj rfl)⟩⟩) (λj hj=>?_) (λb j hb=>?_) (λ_=>id) (λt=>?_) (λ_ hf=>hf.elim)
          (λb hb ho=>yV b (λe=>by subst e;rw[h2] at ho;cases ho)) (λb j hb=>.inl ⟨j,hb⟩) (λj hj=>?_)⟩
         .subst hj;have:(((qS.mask m).start (p.aa.map (·.1)) (p.aa.map λx=>bif Nat.beq x.2 0 then kt else et)).st ids).o j=.it kt et:=LI;rw[this];refine⟨kb,mb,arr,clock,fT,idx++[i],h1,h2,h3,au,ad8,ad7,by rw[fW,if_pos rfl,ai6 fT idx SB],?_,?_,h9,jo,uy⟩
          .rw[IQ];exact⟨h7,by simp,λa ha b hb e=>by simp at hb;subst hb;subst e;exact yy ha⟩
          .intro i' dc;rcases dM.1 dc with h|h
           .exact h8 i' h
           .simp at h;subst h;exact(ei.1 uI).1
         .obtain⟨b1,b2,b3,b4⟩:=h.owns b j hb;exact⟨b1,by omega,b3,b4⟩
         .have hc:Compat ((qS.mask m).st ids) hv (((qS.mask m).start (p.aa.map (·.1)) (p.aa.map λx=>bif Nat.beq x.2 0 then kt else et)).st ids) hv:=⟨λ_=>aX _,λ_ _=>rfl⟩
          refine .inr ⟨?_,λgs s' e=>absurd e (Snap.noOpt _ _ t gs s')⟩;show aG C _ _ V hv (cJ ((tG (p.aa.map (·.1)) (p.aa.map λx=>bif Nat.beq x.2 0 then kt else et) ((qS.mask m).rs.map uJ)).getD t .none)) (a2.tmps.getD t undef) (putL O.r (p.aa.map (·.1)) ((p.aa.map (·.2)).map (D.tup [pd.1,pd.2]).tget) t);rcases WK (p.aa.map (·.1)) (p.aa.map λx=>bif Nat.beq x.2 0 then kt else et) ((qS.mask m).rs.map uJ) (by simp) c4 t with e|⟨mL,sF⟩|⟨i',y,mL,sF,EG⟩
          .rw[e];trivial
          .rw[sF,CL _ _ _ _ mL];have e3:((qS.mask m).rs.map uJ).getD t .none=uJ ((qS.mask m).rs.getD t .none):=by
            simp only[aE,cj];cases(qS.mask m).rs[t]?<;>rfl
           rw[e3];by_cases htw:t∈ws
           .have B4:=Sc t (uN t htw);change cJ ((qS.mask m).rs.getD t .none)=.none at B4;generalize (qS.mask m).rs.getD t .none=s' at B4;cases s'<;>simp[cJ] at B4<;>trivial
           .have hr:=h.regs t;change aG C _ _ V hv (cJ ((qS.mask m).rs.getD t .none)) _ (O.r t) at hr;rw[SM.get t htw];generalize (qS.mask m).rs.getD t .none=s' at hr;cases s' with
            |yv=>trivial
            |opt gs s=>trivial
            |none=>trivial
            |fclo f c=>exact aG.mono' (.refl V) hc (λ_ _ e=>by cases e) hr
            |agg l=>exact aG.mono' (.refl V) hc (λ_ _ e=>by cases e) hr
            |dat t=>exact hr
            |obj j v=>exact aG.mono' (.refl V) hc (λ_ _ e=>by cases e) hr
            |ptr j v o=>exact aG.mono' (.refl V) hc (λ_ _ e=>by cases e) hr
            |eptr j v o q=>exact aG.mono' (.refl V) hc (λ_ _ e=>by cases e) hr
          .rw[EG];have aqp:i'<p.aa.length:=by have:=(eG.1 mL).1;simpa using this
           rw[U7 _ (p.aa.map (·.1)) _ i' t (pY c4) (by simp) mL];obtain⟨xa,mV⟩:∃xa,p.aa[i']?=some xa:=⟨_,aW aqp⟩
           simp only[cj,mV,kG,ba] at mL sF;subst mL;subst sF;rw[ara xa (j6 mV)];have hd:((p.aa.map (·.2)).map (D.tup [pd.1,pd.2]).tget).getD i' .none=(D.tup [pd.1,pd.2]).tget xa.2:=by simp[aE,mV]
           rw[hd];have h2x:xa.2<=1:=by
            rcases UX l oC (λx hx=>by cases hx) xa (j6 mV) with h|h
            .cases h
            .exact h.1
           rcases(by omega:xa.2=0\/xa.2=1) with e0|e0<;>rw[e0]
           .exact bC
           .exact cE
         .have:(((qS.mask m).start (p.aa.map (·.1)) (p.aa.map λx=>bif Nat.beq x.2 0 then kt else et)).st ids).o j=.it kt et:=by rw[hj];exact LI
          rw[this];intro e;cases e
        have arb:=ai6 fT idx SB;obtain⟨rest,s9⟩:∃rest,(gZ fT idx++(D.tup [pd.1,pd.2])::rest).Perm (je (.map fT)):=by
         obtain⟨rest,hr⟩:=aw3 (es:=fT) (idx:=idx++[i]) (by rw[IQ];exact⟨h7,by simp,λa ha b hb e=>by simp at hb;subst hb;subst e;exact yy ha⟩) (λi' dc=>by
          rcases dM.1 dc with h|h
          .rw[h9];exact h8 i' h
          .simp at h;subst h;rw[h9];exact(ei.1 uI).1)
         rw[arb] at hr;exact⟨rest,by simpa using hr⟩
        have gq:=aK _ s9;simp only[p8] at gq;split at gq
        case h_2=>cases gq
        rename_i ρ2 Lj;obtain⟨xi,dI⟩:=aa3 Lj;refine wpIn_mono (ihc rm _ q0 sY rd w0 σ0 wr _ xi a2 w2 gy hC hY (λt ht=>S9 t (hwc t ht)) (SM.size.trans vT) arH dI) λee a3 w3 fW=>?_;have rz:=aa5 n6 (vz code sY) dI Lj fW;have conv:∀ee a3 w3,ic C w0 σ0 ids fn s rm wr a2 (gO ids p.next q0).out (gO ids p.next q0).ex (.next ρ2) ee a3 w3->Exit.then (Code.roundsIn (FR rd) 0 C.P (.seq (.region i1 p.ops1 false) (.seq (.cond (.tmp p.mo) .skip (.exit p.out)) (.block p.next (.seq (.region i2 p.ops2 false) code)))) (ic C w0 σ0 ids fn s rm wr a none [(p.out,(qS.mask m).kill ids J)] x0) kk) (ic C w0 σ0 ids fn s rm wr a none [(p.out,(qS.mask m).kill ids J)] x0) ee a3 w3:=by
         intro ee a3 w3 ho;cases ee with
         |normal=>
          obtain⟨ρ3,T,f1,f2,f3,f4⟩:=ho;cases f1;refine ih (gZ fT idx++[.tup [pd.1,pd.2]]) (lo.map ρ2.o) a3 w3 (kQ.trans ((SM.mono S9).trans f3)) ?_ (λys oF=>?_) (by simp at hlen ⊢;omega)
          .have uG:Good C w0 σ0 (qS.st ids) ρ2 (λ_=>False) a3 w3:=by
            have:=f4.meet2 (x:=qS)
            rwa [BX T f2] at this
           obtain⟨σ3,zn,Ga,fw⟩:=uG;have RL:=PC.ev_but _ _ _ ρ2 Lj rfl;refine⟨σ3,zn,Ga,(fw.maskR m).env (Snap.noOpt _ _) (λt ht=>?_) (λj hj=>?_)⟩
           .have B4:=aqN t ht
            have cR:t∉(gO ids p.next q0).pc.modR:=λfB=>by
                 have:=Sf.1 t fB;have h2:aR (Nat.lor m (gO ids p.next q0).mr) t=true:=by rw[gN,this,tS]
                 rw[FM,B4] at h2;cases h2
            rw[RL.r t cR]
            have sW:t∉p.aa.map (·.1):=λaV=>by
                 have:aR m t=true:=by
                  refine uN t ?_;obtain⟨xa,mV,rfl⟩:=cr.1 aV;rcases UX l oC (λx hx=>by cases hx) xa mV with h|⟨_,o,ho,hd⟩
                  .cases h
                  .exact cT o (by rw[e2];exact fo _ ho) _ hd
                 rw[B4] at this;cases this
            show O.r t=putL O.r (p.aa.map (·.1)) _ t;rw[CL _ _ _ _ sW]
           .have hjd:pS (dv ids qS.os j)=false:=hj;show bY (putL O.o lo (lo.map ρ2.o)) J _ j=ρ2.o j;by_cases B1:j=J
            .subst B1;rw[aN,RL.o j (λfB=>acz (Sf.2 j fB))];simp[Env.setO,aN]
            .rw[bA _ _ B1,uX];split
             .rfl
             .rename_i gS;have cR:j∉(gO ids p.next q0).pc.modO:=λfB=>gS (by rw[<-pG];exact eH.2 ⟨Sf.2 j fB,by rw[hjd];rfl⟩);rw[RL.o j cR];simp only[Env.setO,bA _ _ B1];exact(U8 _ _ _ _ gS).symm
          .have:=aK ((D.tup [pd.1,pd.2])::ys) (by simpa using oF);simp only[p8,Lj] at this;exact this
         |exit id=>obtain⟨ρ3,T,f1,_⟩:=ho;cases f1
         |ret=>
          cases rm with
          |false=>obtain⟨d,f1,_⟩:=ho;cases f1
          |true=>obtain⟨ρ3,T,f1,_⟩:=ho;cases f1
         |_=>exact ho.elim
        cases ee with
        |exit id=>
         simp only[Exit.inBlock] at rz;show if id=p.next then _ else _;split
         .rename_i cL;rw[if_pos cL] at rz;exact conv .normal a3 w3 rz
         .rename_i cL;rw[if_neg cL] at rz;exact conv (.exit id) a3 w3 rz
        |normal=>exact conv .normal a3 w3 rz
        |ret=>exact conv .ret a3 w3 rz
        |panic c=>exact fW.elim
        |goto l=>exact fW.elim
        |_=>exact fW.elim
 have hgq:Good C w0 σ0 (qS.st ids) O (λ_=>False) a w:=bP hg;obtain⟨V,own,hv,h⟩:=hgq;have bj:=h.objs J;have:(qS.st ids).o J=.it kt et:=LI;rw[this] at bj;obtain⟨kb,mb,arr,clock,fT,idx,h1,h2,h3,au,h4,h5,h6,h7,h8,h9,jo,uy⟩:=bj;have hρJ:O.o J=.tup [.list [],es]:=by
  rw[h6] at FV ju;simp[D.tget] at FV ju;rw[h6,FV,<-ju]
 have yu:(O.put [] [] lo (lo.map O.o)).setO J (.tup [.list [],es])=O:=by
  rw[Env.put_self];show Env.mk _ _=_;have:bY O.o J (.tup [.list [],es])=O.o:=by
   funext j;rw[fj];split
   .rename_i e;rw[e];exact hρJ.symm
   .rfl
  rw[this]
 exact wpIn_loop_rounds _ (key ((je es).length+1) [] (lo.map O.o) a w (.refl _ _) (by rw[yu];exact⟨V,own,hv,h.maskR m⟩) (λys oF=>apB ys oF) (by simp))
def al4 {N:Nat}(ed:gM C Z)(hR:Pp C n ids Z R):∀(k:Nat) (c:Code),sizeOf c<k->xI C Z fn s n ids R N c:=by
 intro k;refine Nat.rec (λc h=>absurd h (Nat.not_lt_zero _)) (λk IH=>?_) k;intro c hc;cases c with
 |skip=>
  intro rm S r h rd w0 σ0 wr O x a w gy hC hY fG hn hg he;simp only[comp,ba] at h;subst h;simp only[PC.ev,ba] at he;subst he;exact wpIn_skip ⟨O,S,rfl,rfl,.refl _ _,hg⟩
 |region id ops draw=>
  intro rm S r h rd w0 σ0 wr O x a w gy hC hY fG hn hg he;simp only[comp,aB] at h;obtain⟨q,hq,rfl⟩:=h;simp only[PC.ev,aB] at he;obtain⟨O',hr,rfl⟩:=he;exact hR id ops draw S q hq rd w0 σ0 O O' a w _ hC hY hn hg hr (λa' w' ef ly=>⟨O',q.1,rfl,rfl,ef.mono (λt ⟨o,h1,h2⟩=>fG t (Aj.2 ⟨o,h1,h2⟩)),ly⟩)
 |seq c1 c2=>
  have vZ:=IH c1 (by simp at hc;omega);have v7:=IH c2 (by simp at hc;omega);intro rm S r h rd w0 σ0 wr O x a w gy hC hY fG hn hg he;have jb:∀t,t∈cD c1->wr t:=λt ht=>fG t (jm _ ht);have cT:∀t,t∈cD c2->wr t:=λt ht=>fG t (jG _ ht);simp only[comp,az] at h;obtain⟨q,hq,h⟩:=h;split at h
  .rename_i kP;cases h;refine wpIn_seq (wpIn_mono (vZ rm S _ hq rd w0 σ0 wr O x a w gy hC hY jb hn hg he) λe a' w' ho=>?_);cases e with
   |normal=>obtain⟨_,_,_,h2,_⟩:=ho;rw[kP] at h2;cases h2
   |_=>exact ho
  .rename_i S1 kP;simp only[aB] at h;obtain⟨p,hp,rfl⟩:=h;simp only[PC.ev] at he
   have key:∀x1,q.pc.ev Z N O=some x1->(match some x1 with|some (.next O')=>p.pc.ev Z N O'|y=>y)=some x->(Code.seq c1 c2).wpIn (FR rd) 0 C.P (ic C w0 σ0 ids fn s rm wr a p.out (q.ex++p.ex) x) a w:=by
      intro x1 h1 h2;refine wpIn_seq (wpIn_mono (vZ rm S _ hq rd w0 σ0 wr O x1 a w gy hC hY jb hn hg h1) λe a' w' ho=>?_);have other:∀{e:Exit},e≠.normal->ic C w0 σ0 ids fn s rm wr a q.out q.ex x1 e a' w'->x1=x->ic C w0 σ0 ids fn s rm wr a p.out (q.ex++p.ex) x e a' w':=by
       intro e au ho hx;subst hx;exact ho.mono (λy hy=>jm _ hy) (.refl _ _) (λe=>absurd e au)
      cases e with
      |normal=>
       obtain⟨ρ1,S2,e1,e2,dT,iv⟩:=ho;subst e1;rw[kP] at e2;cases e2;simp only at h2;refine wpIn_mono (v7 rm S1 _ hp rd w0 σ0 wr ρ1 x a' w' gy hC hY cT (dT.size.trans hn) iv h2) λe a2 w2 fD=>?_;exact fD.mono (λy hy=>jG _ hy) dT (λ_=>rfl)
      |exit id=>
       refine other (by simp) ho ?_;obtain⟨ρ1,S2,e1,_⟩:=ho;subst e1;simpa using h2
      |ret=>
       refine other (by simp) ho ?_;cases rm with
       |false=>obtain⟨d,e1,_⟩:=ho;subst e1;simpa using h2
       |true=>obtain⟨ρ1,S2,e1,_⟩:=ho;subst e1;simpa using h2
      |_=>exact ho.elim
   cases h1:q.pc.ev Z N O with
   |none=>rw[h1] at he;simp at he
   |some x1=>rw[h1] at he;exact key x1 h1 he
 |cond c c1 c2=>
  have vZ:=IH c1 (by simp at hc;omega);have v7:=IH c2 (by simp at hc;omega);intro rm S r h rd w0 σ0 wr O x a w gy hC hY fG hn hg he;have jb:∀t,t∈cD c1->wr t:=λt ht=>fG t (jm _ ht);have cT:∀t,t∈cD c2->wr t:=λt ht=>fG t (jG _ ht);simp only[comp] at h;split at h
  case h_2=>cases h;exact absurd he (nu _ _ _ _)
  rename_i e hu;simp only[az,aB] at h;obtain⟨q,hq,p,hp,rfl⟩:=h;have hb:∃b,a.eval c=.bool b/\e.ev O=.v (.bool b):=by
   obtain⟨V,own,hv,hi⟩:=hg;have:=cw (gs:=[]) hi hC rfl hu;generalize a.eval c=v at this;generalize e.ev O=d at this;cases this with|bool b=>exact⟨b,rfl,rfl⟩
  obtain⟨b,gq,db⟩:=hb;have sV:=vz c1 hq;have FL:=vz c2 hp;have main:∀(o:Option Snap) (lr lo:List Nat) (rx:Res2),rx=⟨.ite e lr lo q.pc p.pc,o,q.ex++p.ex,Nat.lor q.mr p.mr,j0 q.mo p.mo⟩->
        (∀M,o=some M->lr=kV M (Nat.lor q.mr p.mr)/\lo=jR ids M (j0 q.mo p.mo))->
        (∀S1 ρ1 a w,q.out=some S1->Good C w0 σ0 (S1.st ids) ρ1 (λ_=>False) a w->∃M,o=some M/\Good C w0 σ0 (M.st ids) ρ1 (λ_=>False) a w)->
        (∀S1 ρ1 a w,p.out=some S1->Good C w0 σ0 (S1.st ids) ρ1 (λ_=>False) a w->∃M,o=some M/\Good C w0 σ0 (M.st ids) ρ1 (λ_=>False) a w)->
        rx.pc.ev Z N O=some x->(Code.cond c c1 c2).wpIn (FR rd) 0 C.P (ic C w0 σ0 ids fn s rm wr a rx.out rx.ex x) a w:=by
   intro o lr lo rx hrx hl sZ oC bL;subst hrx;simp only[PC.ev,db,D.b_bool] at bL;have fin:∀(ci:Code) (qi:Res2) (xi:Out),(∀y,y∈qi.ex->y∈q.ex++p.ex)->(∀t,t∈qi.pc.modR->aR (Nat.lor q.mr p.mr) t=true)->(∀j,j∈qi.pc.modO->j∈j0 q.mo p.mo)->
    (∀S1 ρ1 a w,qi.out=some S1->Good C w0 σ0 (S1.st ids) ρ1 (λ_=>False) a w->∃M,o=some M/\Good C w0 σ0 (M.st ids) ρ1 (λ_=>False) a w)->
    qi.pc.ev Z N O=some xi->(match some xi with|some (.next O')=>some (Out.next (O.join lr lo O'))|y=>y)=some x->
    ci.wpIn (FR rd) 0 C.P (ic C w0 σ0 ids fn s rm wr a qi.out qi.ex xi) a w->ci.wpIn (FR rd) 0 C.P (ic C w0 σ0 ids fn s rm wr a o (q.ex++p.ex) x) a w:=by
        intro ci qi xi hex l6 mU kP dI hx hwp;refine wpIn_mono hwp λee a' w' ho=>?_;have other:ee≠.normal->xi=x->ic C w0 σ0 ids fn s rm wr a o (q.ex++p.ex) x ee a' w':=by
         intro au kS;subst kS;exact ho.mono hex (.refl _ _) (λe=>absurd e au)
        cases ee with
        |normal=>
         obtain⟨ρ1,S2,e1,e2,dT,iv⟩:=ho;subst e1;simp only[ba] at hx;subst hx;obtain⟨M,hM,uG⟩:=kP S2 ρ1 a' w' e2 iv;obtain⟨l1,l2⟩:=hl M hM;subst l1 l2;exact⟨_,M,rfl,hM,dT,uG.joined (PC.ev_but qi.pc O _ ρ1 dI rfl) l6 mU⟩
        |exit id=>
         refine other (by simp) ?_;obtain⟨ρ1,S2,e1,_⟩:=ho;subst e1;simpa using hx
        |ret=>
         refine other (by simp) ?_;cases rm with
         |false=>obtain⟨d,e1,_⟩:=ho;subst e1;simpa using hx
         |true=>obtain⟨ρ1,S2,e1,_⟩:=ho;subst e1;simpa using hx
        |_=>exact ho.elim
   refine wpIn_cond gq ?_;cases b with
   |true=>
    simp only[zyy] at bL;cases dI:q.pc.ev Z N O with
    |none=>rw[dI] at bL;simp at bL
    |some xi=>
     rw[dI] at bL;refine fin c1 q xi (λy hy=>jm _ hy) (λt ht=>?_) (λj hj=>rH.2 (.inl (sV.2 j hj))) sZ dI bL (vZ rm S _ hq rd w0 σ0 wr O xi a w gy hC hY jb hn hg dI);rw[gN,sV.1 t ht];rfl
   |false=>
    simp only[zyx] at bL;cases dI:p.pc.ev Z N O with
    |none=>rw[dI] at bL;simp at bL
    |some xi=>
     rw[dI] at bL;refine fin c2 p xi (λy hy=>jG _ hy) (λt ht=>?_) (λj hj=>rH.2 (.inr (FL.2 j hj))) oC dI bL (v7 rm S _ hp rd w0 σ0 wr O xi a w gy hC hY cT hn hg dI);rw[gN,FL.1 t ht,tS]
  have sZ:∀S1 ρ1 a w,q.out=some S1->Good C w0 σ0 (S1.st ids) ρ1 (λ_=>False) a w->∃M,na q.out p.out=some M/\Good C w0 σ0 (M.st ids) ρ1 (λ_=>False) a w:=by
   intro S1 ρ1 a w e1 g1;rw[e1];obtain⟨M,hM⟩:=@afm S1 p.out;exact⟨M,hM,afk g1 hM⟩
  have oC:∀S1 ρ1 a w,p.out=some S1->Good C w0 σ0 (S1.st ids) ρ1 (λ_=>False) a w->∃M,na q.out p.out=some M/\Good C w0 σ0 (M.st ids) ρ1 (λ_=>False) a w:=by
   intro S1 ρ1 a w e1 g1;rw[e1];obtain⟨M,hM⟩:=@afn q.out S1;exact⟨M,hM,afl g1 hM⟩
  cases hm:na q.out p.out with
  |none=>
   rw[hm] at sZ oC;simp only[hm] at he ⊢;exact main none [] [] _ rfl (λM e=>by cases e) sZ oC he
  |some M=>
   rw[hm] at sZ oC;simp only[hm] at he ⊢;exact main (some M) _ _ _ rfl (λM' e=>by cases e;exact⟨rfl,rfl⟩) sZ oC he
 |block id c1=>
  have vZ:=IH c1 (by simp at hc;omega);intro rm S r h rd w0 σ0 wr O x a w gy hC hY fG hn hg he;simp only[comp] at h;cases cL:Nat.beq id cP<;>simp only[cL,zyy,zyx] at h
  case true=>cases h;exact absurd he (nu _ _ _ _)
  have Lu:id≠cP:=λe=>by subst e;simp at cL
  simp only[aB] at h;obtain⟨q,hq,rfl⟩:=h;obtain⟨xi,dI⟩:=aa3 he;exact wpIn_block (wpIn_mono (vZ rm S _ hq rd w0 σ0 wr O xi a w gy hC hY fG hn hg dI) λe a' w' fW=>aa5 Lu (vz c1 hq) dI he fW)
 |loop c1=>
  have vZ:=IH c1 (by simp at hc;omega);intro rm S r h rd w0 σ0 wr O x a w gy hC hY fG hn hg he;rw[abv] at h;split at h
  .rename_i qb F4;obtain⟨p,code,ws⟩:=qb;unfold za at F4;split at F4
   case h_2=>cases F4
   rename_i cx cy ck cz cc;simp only[aB] at F4;obtain⟨p',aV,ep⟩:=F4;cases ep;exact aud aV (IH _ (by simp at hc;omega)) h gy hC hY fG hn hg he
  split at h
  case h_2=>cases h;exact absurd he (nu _ _ _ _)
  rename_i q hq;cases h;obtain⟨hs,BX,bP⟩:=Gp (C:=C) (w0:=w0) (σ0:=σ0) (ids:=ids) 8 hq;have sV:=vz c1 hs;simp only[PC.ev] at he
  have yw:Good C w0 σ0 (q.1.st ids) (O.put (kV q.1 q.2.mr) ((kV q.1 q.2.mr).map O.r) (jR ids q.1 q.2.mo) ((jR ids q.1 q.2.mo).map O.o)) (λ_=>False) a w:=by
   exact Good.joined (bP hg) (.refl O q.2.pc.modR q.2.pc.modO) sV.1 sV.2
  have key:∀(k:Nat) (ρ1:Env) (a':Act) (w:World),SameBut wr a a'->jd (q.2.pc.ev Z N) O (kV q.1 q.2.mr) (jR ids q.1 q.2.mo) k ((kV q.1 q.2.mr).map ρ1.r) ((jR ids q.1 q.2.mo).map ρ1.o)=some x->
        Good C w0 σ0 (q.1.st ids) (O.join (kV q.1 q.2.mr) (jR ids q.1 q.2.mo) ρ1) (λ_=>False) a' w->Code.roundsIn (FR rd) 0 C.P c1 (ic C w0 σ0 ids fn s rm wr a none q.2.ex x) k a' w:=by
   intro k
   induction k with
   |zero=>intro ρ1 a' w hn hl hg;simp[jd] at hl
   |succ k ih=>
    intro ρ1 a' w kQ hl hg;rw[roundsIn_succ];simp only[jd] at hl;change (match q.2.pc.ev Z N (O.join (kV q.1 q.2.mr) (jR ids q.1 q.2.mo) ρ1) with|some (.next O')=>_|y=>y)=some x at hl;cases dI:q.2.pc.ev Z N (O.join (kV q.1 q.2.mr) (jR ids q.1 q.2.mo) ρ1) with
    |none=>rw[dI] at hl;simp at hl
    |some xi=>
     rw[dI] at hl;refine wpIn_mono (vZ rm _ _ hs rd w0 σ0 wr _ xi a' w gy hC hY fG (kQ.size.trans hn) hg dI) λe a2 w' fW=>?_;have other:e≠.normal->xi=x->ic C w0 σ0 ids fn s rm wr a none q.2.ex x e a2 w':=by
         intro au kS;subst kS;exact fW.mono (λy hy=>hy) kQ (λe=>absurd e au)
     cases e with
     |normal=>
      obtain⟨ρ2,S2,e1,e2,dT,iv⟩:=fW;subst e1;simp only at hl;refine ih ρ2 a2 w' (kQ.trans dT) hl ?_
      have uG:Good C w0 σ0 (q.1.st ids) ρ2 (λ_=>False) a2 w':=by
       have:=iv.meet2 (x:=q.1)
       rwa [BX S2 e2] at this
      refine uG.joined (mr':=kV q.1 q.2.mr++q.2.pc.modR) (mo':=jR ids q.1 q.2.mo++q.2.pc.modO) ?_ (λt ht=>?_) (λj hj=>?_)
      .exact((Env.but.join O ρ1 _ _).mono (λt ht=>jm _ ht) (λt ht=>jm _ ht)).trans
        ((PC.ev_but q.2.pc _ _ ρ2 dI rfl).mono (λt ht=>jG _ ht) (λt ht=>jG _ ht))
      .exact(dM.1 ht).elim Mk (sV.1 t)
      .exact(dM.1 hj).elim Ct (sV.2 j)
     |exit id=>
      refine other (by simp) ?_;obtain⟨ρ1,S2,e1,_⟩:=fW;subst e1;simpa using hl
     |ret=>
      refine other (by simp) ?_;cases rm with
      |false=>obtain⟨d,e1,_⟩:=fW;subst e1;simpa using hl
      |true=>obtain⟨ρ1,S2,e1,_⟩:=fW;subst e1;simpa using hl
     |_=>exact fW.elim
  exact wpIn_loop_rounds N (key N O a w (.refl _ _) he yw)
 |exit id=>
  intro rm S r h rd w0 σ0 wr O x a w gy hC hY fG hn hg he;simp only[comp] at h;cases cL:Nat.beq id cP<;>simp only[cL,zyy,zyx] at h
  case true=>cases h;exact absurd he (nu _ _ _ _)
  cases h;simp only[PC.ev,ba] at he;subst he;exact wpIn_exit ⟨O,S,rfl,λe=>by subst e;simp at cL,by simp,.refl _ _,hg⟩
 |ret=>
  intro rm S r h rd w0 σ0 wr O x a w gy hC hY fG hn hg he;simp only[comp] at h;cases rm<;>simp only[zyy,zyx] at h
  case true=>
   cases h;simp only[PC.ev,ba] at he;subst he;exact wpIn_ret ⟨O,S,rfl,by simp,.refl _ _,hg⟩
  split at h
  .rename_i e SJ;cases h;simp only[PC.ev,ba] at he;subst he;obtain⟨V,own,hv,hi⟩:=hg;exact wpIn_ret ⟨_,rfl,Inv.retD hC (λ_=>rfl) (gy rfl).2 SJ _ hi rfl,.refl _ _⟩
  .cases h;exact absurd he (nu _ _ _ _)
 |rangeFunc g ps ca cb=>exact awf ed (IH ca (by simp at hc;omega)) (IH cb (by simp at hc;omega))
 |_=>intro rm S r h rd w0 σ0 wr O x a w gy hC hY fG hn hg he;simp only[comp,ba] at h;subst h;exact absurd he (nu _ _ _ _)
def al3 {N:Nat}(ed:gM C Z)(hR:Pp C n ids Z R)(c:Code):xI C Z fn s n ids R N c:=al4 ed hR _ c (Nat.lt_succ_self _)
end
end Cx
