import Derived.LoopNIn
import Derived.Test.YtnkkihnmnfihnaaGreatDoorMAE
import Derived.LoopN
set_option linter.all false
namespace Cx
open Go Go.RowKit
def aB (m t:Nat):Bool:= !Nat.beq (Nat.land 1 (Nat.shiftRight m t)) 0
def ua (m t:Nat):aB m t=m.testBit t:=by
 unfold aB Nat.testBit;show(!Nat.beq (1&&& (m>>>t)) 0)=((1&&& (m>>>t))!=0)
 generalize 1&&& (m>>>t)=x;cases x<;>rfl
def eh (t:Nat):Nat:=Nat.shiftLeft 1 t
def sD (t:Nat):aB (eh t) t=true:=by
 rw[ua];show(1<<<t).testBit t=true;simp[Nat.testBit_shiftLeft]
def fS (m k t:Nat):aB (Nat.lor m k) t=(aB m t||aB k t):=by
 simp only[ua];exact Nat.testBit_or m k t
def PI.mask:PI->Nat
 |.setR t _=>eh t|.call _ t _ _=>eh t|.callc _ t _ _=>eh t|_=>0
def Ma:List PI->Nat
 |[]=>0
 |p::l=>Nat.lor p.mask (Ma l)
def PI.objs:PI->List Nat
 |.setO j _=>[j]|.mcall j _ _=>[j]|_=>[]
def fX (l:List Nat)(x:Nat):Bool:=l.any (Nat.beq x)
def ku (a b:List Nat):List Nat:=a.foldl (λacc x=>bif fX acc x then acc else x::acc) b
def aeq (l:List PI):List Nat:=l.foldl (λacc p=>ku p.objs acc) []
def ry (l:List Nat)(x:Nat):fX l x=true↔x∈l:=by
 unfold fX;rw[jA];constructor
 .rintro⟨y,hy,h⟩;rw[aE h];exact hy
 .intro h;exact⟨x,h,iK x⟩
def rz {x:Nat}:∀{a b:List Nat},x∈ku a b↔x∈a\/x∈b
 |[],b=>by simp[ku]
 |y::a,b=>by
  have ih:=@rz x a (bif fX b y then b else y::b);have e:ku (y::a) b=ku a (bif fX b y then b else y::b):=rfl;rw[e,ih];cases hb:fX b y
  .simp[or_assoc,or_left_comm]
  .have:=(ry b y).1 hb;simp only[zyy,cQ];constructor
   .rintro(h|h)
    .exact .inl (.inr h)
    .exact .inr h
   .rintro((h|h)|h)
    .subst h;exact .inr this
    .exact .inl h
    .exact .inr h
def atY {x:Nat}(l:List PI)(h:x∈l.flatMap PI.modO):x∈aeq l:=by
 have key:∀(l:List PI) (acc:List Nat),(x∈l.flatMap PI.modO\/x∈acc)->x∈l.foldl (λacc p=>ku p.objs acc) acc:=by
  intro l
  induction l with
  |nil=>intro acc h;simpa using h
  |cons p l ih=>
   intro acc h;refine ih _ ?_;rw[xQ,dR] at h;rcases h with(h|h)|h
   .refine .inr (rz.2 (.inl ?_));cases p<;>simp_all [PI.modO,PI.objs]
   .exact .inl h
   .exact .inr (rz.2 (.inr h))
 exact key l [] (.inl h)
def ad1 {t:Nat}:∀(l:List PI),t∈l.flatMap PI.modR->aB (Ma l) t=true
 |[],h=>by simp at h
 |p::l,h=>by
  rw[xQ,dR] at h;simp only[Ma,fS,gJ];rcases h with h|h
  .left;cases p<;>simp[PI.modR] at h<;>subst h<;>exact sD _
  .exact .inr (ad1 l h)
structure Res2 where
 pc:PC
 out:Option Snap
 ex:List (Nat×Snap)
 mr:Nat
 mo:List Nat
 deriving Inhabited
def nK:Option Snap->Option Snap->Option Snap
 |none,x=>x
 |x,none=>x
 |some a,some b=>some (a.meet b)
def qd (id:Nat):List (Nat×Snap)->Option Snap->Option Snap
 |[],acc=>acc
 |x::l,acc=>qd id l (bif Nat.beq x.1 id then nK acc (some x.2) else acc)
def iter (step:Snap->Option Res2):Nat->Snap->Option (Snap×Res2)
 |0,_=>none
 |k+1,S=>(step S).bind λr=>
  match r.out with
  |none=>some (S,r)
  |some T=>bif (S.meet T).beq S then some (S,r) else iter step k (S.meet T)
def lE (S:Snap)(m:Nat):List Nat:=(List.range S.rs.length).filter λt=>aB m t&& !isNone (cP (S.rs.getD t .none))
def km (ids:List Nat)(S:Snap)(l:List Nat):List Nat:=l.filter λj=> !p9 (dG ids S.os j)
def iz:Res2:=⟨.is [H6],none,[],0,[]⟩
def nX (Z:aW)(N:Nat)(O:Env)(x:Out):iz.pc.ev Z N O≠some x:=by
 intro h;simp[iz,PC.ev,PI.runs,PI.run,H6,PE.ev,D.b_bool] at h
def nY:(∀t,t∈iz.pc.modR->aB iz.mr t=true)/\∀j,j∈iz.pc.modO->j∈iz.mo:=by
 constructor<;>intro t h<;>simp[iz,PC.modR,PC.modO,PI.modR,PI.modO,H6] at h
def cN:Code->List Nat
 |.region _ ops _=>ops.toList.filterMap (·.dst)
 |.seq a b=>cN a++cN b
 |.cond _ a b=>cN a++cN b
 |.block _ a=>cN a
 |.loop a=>cN a
 |_=>[]
def zp (l:List Nat):Nat:=l.foldr (λt m=>Nat.lor (eh t) m) 0
def uW (m:Nat):Nat->List Sh->List Sh
 |_,[]=>[]
 |t,s::l=>(bif aB m t then .none else s)::uW m (t+1) l
def Snap.mask (m:Nat)(S:Snap):Snap:=⟨uW m 0 S.rs,S.os⟩
def uE:Sh->Sh
 |.yv=>.none
 |s=>s
def tF:List Nat->List Ty->List Sh->List Sh
 |p::ps,y::ys,l=>tF ps ys (l.set p (.dat y))
 |_,_,l=>l
def Snap.start (ps:List Nat)(ys:List Ty)(S:Snap):Snap:=⟨tF ps ys (S.rs.map uE),S.os⟩
def adT (ids:List Nat)(l:List Snap)(mo:List Nat):List Nat:=mo.filter λj=>l.any λS=> !p9 (dG ids S.os j)
def axc (wm:Nat)(ra rb:Res2):Res2:=
 let m:=Nat.lor wm (Nat.lor ra.mr rb.mr)
 ⟨.seq ra.pc rb.pc,rb.out.map (Snap.mask m),rb.ex.map (λx=>(x.1,x.2.mask m)),m,ku ra.mo rb.mo⟩
def hZ (ids:List Nat)(id:Nat)(r:Res2):Res2:=
    match qd id r.ex r.out with
    |some M=>⟨.block id (lE M r.mr) (km ids M r.mo) r.pc,some M,r.ex.filter λx=> !Nat.beq x.1 id,r.mr,r.mo⟩
    |none=>⟨.block id [] [] r.pc,none,r.ex.filter λx=> !Nat.beq x.1 id,r.mr,r.mo⟩
def wU:List (Nat×Nat)->Nat->Option Nat
 |[],_=>none
 |x::l,t=>bif Nat.beq x.1 t then some x.2 else wU l t
def me (pr:Nat):List Oper->List (Nat×Nat)->Option (List (Nat×Nat))
 |[],acc=>some acc
 |o::l,acc=>
  match o.dst,o.guard with
  |some d,none=>
   bif Nat.beq d pr||(wU acc d).isSome then none else
   match o.op with
   |.extract (.tmp t) i=>bif Nat.beq t pr&&Nat.ble i 1 then me pr l (acc++[(d,i)]) else none
   |.assign (.tmp t)=>(wU acc t).bind λi=>me pr l (acc++[(d,i)])
   |.move (.tmp t)=>(wU acc t).bind λi=>me pr l (acc++[(d,i)])
   |_=>none
  |_,_=>none
structure MP where
 it:Nat
 nx:Nat
 mo:Nat
 out:Nat
 next:Nat
 pr:Nat
 ops1:Array Oper
 ops2:Array Oper
 aa:List (Nat×Nat)
 deriving Inhabited
def Ct (x y:Code)(k:Nat)(z:Code):Option MP:=
 match x,y,z with
 |.region _ ops1 false,.cond (.tmp mo) .skip (.exit out),.region _ ops2 false=>
  match ops1.toList,ops2.toList with
  |[o1,o2],o3::l=>
   match o1.dst,o1.guard,o1.op,o2.dst,o2.guard,o2.op,o3.dst,o3.guard,o3.op with
   |some nx,none,.next (.tmp it) false,some mo',none,.extract (.tmp nx') 0,some pr,none,.entry (.tmp it')=>
    bif Nat.beq mo mo'&&Nat.beq nx nx'&&Nat.beq it it'&& !Nat.beq it nx&& !Nat.beq it mo&& !Nat.beq it pr&& !Nat.beq nx mo&& !Nat.beq out cY&& !Nat.beq k cY then
     (me pr l []).map λaa=>⟨it,nx,mo,out,k,pr,ops1,ops2,aa⟩
    else none
   |_,_,_,_,_,_,_,_,_=>none
  |_,_=>none
 |_,_,_=>none
def zj:List Nat->Nat->List Ob->List Ob
 |i::is,J,o::os=>(bif Nat.beq i J then .dead else o)::zj is J os
 |_,_,os=>os
def Snap.kill (ids:List Nat)(J:Nat)(S:Snap):Snap:=⟨S.rs,zj ids J S.os⟩
def ac7 (J:Nat)(kt et:Ty)(ids:List Nat)(p:MP)(m:Nat)(S:Snap):Bool:=
 Sh.beq (S.rs.getD p.it .none) (.obj J 0)&&Ob.beq (dG ids S.os J) (.it kt et)&& !aB m p.it
def Cu (ids:List Nat)(n:Nat)(p:MP)(ws:List Nat)(f:Snap->Option Res2)(S:Snap):Option Res2:=
 match cP (S.rs.getD p.it .none) with
 |.obj J 0=>
  match dG ids S.os J with
  |.it kt et=>
   let ps:=p.aa.map (·.1)
   let ys:=p.aa.map λx=>bif Nat.beq x.2 0 then kt else et
   let m:=zp ws
   match iter (λS=>(f ((S.mask m).start ps ys)).map (hZ ids p.next)) 8 S with
   |some r=>
    bif r.2.ex.isEmpty&& !fX r.2.mo J&&ac7 J kt et ids p m r.1&&iu ps&&ps.all (λt=>Nat.blt t n)&&Nat.blt p.nx n&&Nat.blt p.mo n&&Nat.blt p.pr n&&Nat.beq (Nat.lor m r.2.mr) m then
       some ⟨.seq (.meach J ps (p.aa.map (·.2)) (km ids r.1 r.2.mo) r.2.pc) (.exit p.out),none,[(p.out,(r.1.mask m).kill ids J)],0,r.2.mo⟩
    else some iz
   |none=>some iz
  |_=>some iz
 |_=>some iz
def comp (C:Ctx)(fn:Func)(s:Sig)(n:Nat)(ids:List Nat)(R:Array Oper->Bool->Snap->Option (Snap×List PI)):Bool->Code->Snap->Option Res2
 |_,.skip,S=>some ⟨.skip,some S,[],0,[]⟩
 |_,.region _ ops draw,S=>(R ops draw S).map λr=>⟨.is r.2,some r.1,[],Ma r.2,aeq r.2⟩
 |rm,.seq a b,S=>(comp C fn s n ids R rm a S).bind λr=>
  match r.out with
  |none=>some r
  |some S1=>(comp C fn s n ids R rm b S1).map λq=>⟨.seq r.pc q.pc,q.out,r.ex++q.ex,Nat.lor r.mr q.mr,ku r.mo q.mo⟩
 |rm,.cond c a b,S=>
  match use C (S.st ids) [] c with
  |some (.bool,e)=>
   (comp C fn s n ids R rm a S).bind λr=>(comp C fn s n ids R rm b S).map λq=>
     match nK r.out q.out with
     |some M=>⟨.ite e (lE M (Nat.lor r.mr q.mr)) (km ids M (ku r.mo q.mo)) r.pc q.pc,some M,r.ex++q.ex,Nat.lor r.mr q.mr,ku r.mo q.mo⟩
     |none=>⟨.ite e [] [] r.pc q.pc,none,r.ex++q.ex,Nat.lor r.mr q.mr,ku r.mo q.mo⟩
  |_=>some iz
 |rm,.block id a,S=>bif Nat.beq id cY then some iz else(comp C fn s n ids R rm a S).map (hZ ids id)
 |rm,.loop (.seq x (.seq y (.block k (.seq z code)))),S=>
  (match Ct x y k z with
  |some p=>Cu ids n p (cN x++(cN y++(cN z++cN code))) (λS=>comp C fn s n ids R rm code S) S
  |none=>
  match iter (λS=>comp C fn s n ids R rm (.seq x (.seq y (.block k (.seq z code)))) S) 8 S with
  |some r=>some ⟨.loop (lE r.1 r.2.mr) (km ids r.1 r.2.mo) r.2.pc,none,r.2.ex,r.2.mr,r.2.mo⟩
  |none=>some iz)
 |rm,.loop a,S=>
  match iter (λS=>comp C fn s n ids R rm a S) 8 S with
  |some r=>some ⟨.loop (lE r.1 r.2.mr) (km ids r.1 r.2.mo) r.2.pc,none,r.2.ex,r.2.mr,r.2.mo⟩
  |none=>some iz
 |_,.exit id,S=>bif Nat.beq id cY then some iz else some ⟨.exit id,none,[(id,S)],0,[]⟩
 |rm,.ret,S=>
  bif rm then some ⟨.exit cY,none,[(cY,S)],0,[]⟩ else
  match zZ C fn s (S.st ids) with
  |some e=>some ⟨.ret e,none,[],0,[]⟩
  |none=>some iz
 |rm,.rangeFunc g ps a b,S=>
  match rm,C.yl,use C (S.st ids) [] g with
  |false,none,some (.fn aa r,e)=>
   match nI aa r with
   |some ys=>
    match iter (λS=>(comp C fn s n ids R true a (S.start ps.toList ys)).bind λra=>
          match ra.out,ra.ex with
          |some S1,[]=>(comp C fn s n ids R true b S1).map (axc (zp (ps.toList++cN a++cN b)) ra)
          |_,_=>none) 8 S with
    |some r=>
     bif Nat.beq ys.length ps.size&&iu ps.toList&&ps.toList.all (λp=>Nat.blt p n)&&Nat.ble r.1.rs.length n then
           some ⟨.seq (.is [.callc [] n e []]) (.each (.r n) ps.toList (adT ids (r.1::r.2.ex.map (·.2)) r.2.mo) ((qd cY r.2.ex none).bind λM=>zZ C fn s (M.st ids)) r.2.pc),
            some r.1,r.2.ex.filter (λx=> !Nat.beq x.1 cY),eh n,r.2.mo⟩
     else some iz
    |none=>some iz
   |none=>some iz
  |_,_,_=>some iz
 |_,_,_=>some iz
termination_by structural _ c=>c
def zn:Code->Option (MP×Code×List Nat)
 |.seq x (.seq y (.block k (.seq z code)))=>(Ct x y k z).map λp=>(p,code,cN x++(cN y++(cN z++cN code)))
 |_=>none
def aaD (C:Ctx)(fn:Func)(s:Sig)(n:Nat)(ids:List Nat)(R:Array Oper->Bool->Snap->Option (Snap×List PI))(rm:Bool)(a:Code)(S:Snap):comp C fn s n ids R rm (.loop a) S=
 match zn a with
 |some q=>Cu ids n q.1 q.2.2 (λS=>comp C fn s n ids R rm q.2.1 S) S
 |none=>
  match iter (λS=>comp C fn s n ids R rm a S) 8 S with
  |some r=>some ⟨.loop (lE r.1 r.2.mr) (km ids r.1 r.2.mo) r.2.pc,none,r.2.ex,r.2.mr,r.2.mo⟩
  |none=>some iz:=by
 by_cases h:∃x y k z code,a=.seq x (.seq y (.block k (.seq z code)))
 .obtain⟨x,y,k,z,code,rfl⟩:=h
  conv=>lhs;unfold comp
  simp only[zn];cases Ct x y k z<;>rfl
 .have e:zn a=none:=by
   unfold zn;split
   .rename_i x y k z code;exact absurd ⟨x,y,k,z,code,rfl⟩ h
   .rfl
  rw[e];rw[comp];intro x y k z code e;exact h ⟨x,y,k,z,code,e⟩
def subs:Code->List Code
 |.seq a b=>.seq a b::(subs a++subs b)
 |.cond c a b=>.cond c a b::(subs a++subs b)
 |.block i a=>.block i a::subs a
 |.loop a=>.loop a::subs a
 |.rangeFunc g ps a b=>.rangeFunc g ps a b::(subs a++subs b)
 |c=>[c]
def axL (c:Code):c∈subs c:=by cases c<;>simp[subs]
def aGH {a code:Code}{p:MP}{ws:List Nat}(h:zn a=some (p,code,ws)):code∈subs a:=by
 unfold zn at h;split at h
 .simp only[aD] at h;obtain⟨q,_,e⟩:=h;cases e;simp[subs,axL]
 .cases h
def OO (C:Ctx)(n:Nat)(ids:List Nat)(Z:aW)(R:Array Oper->Bool->Snap->Option (Snap×List PI)):Prop:=
 ∀(id:Nat) (ops:Array Oper) (draw:Bool) (S:Snap) (r:Snap×List PI),R ops draw S=some r->
  ∀(rd:Option Nat) (w0:World) (σ0:Base) (O O':Env) (a:Act) (w:World) (Q:Exit->Act->World->Prop),CtxOK C σ0->qJ C Z w0 σ0->a.tmps.size=n->Good C w0 σ0 (S.st ids) O (λ_=>False) a w->PI.runs Z r.2 O=some O'->
   (∀a' w',SameBut (sG ops) a a'->Good C w0 σ0 (r.1.st ids) O' (λ_=>False) a' w'->Q .normal a' w')->(Code.region id ops draw).wpIn (FR rd) 0 C.P Q a w
section
variable {C:Ctx} {O O':Env} {V:Im} {own:Nat->Option Nat} {hv:Nat->Value} {w0:World} {σ0:Base} {A:Nat->Prop} {a:Act} {w:World} {Z:aW} {n:Nat} {ids:List Nat} {fn:Func} {s:Sig}
 {R:Array Oper->Bool->Snap->Option (Snap×List PI)}
def iM (C:Ctx)(w0:World)(σ0:Base)(ids:List Nat)(fn:Func)(s:Sig)(rm:Bool)(wr:Nat->Prop)(a0:Act)(out:Option Snap)(ex:List (Nat×Snap))(x:Out):Exit->Act->World->Prop
 |.normal,a,w=>∃O S,x=.next O/\out=some S/\SameBut wr a0 a/\Good C w0 σ0 (S.st ids) O (λ_=>False) a w
 |.exit id,a,w=>∃O S,x=.exit id O/\id≠cY/\(id,S)∈ex/\SameBut wr a0 a/\Good C w0 σ0 (S.st ids) O (λ_=>False) a w
 |.ret,a,w=>match rm with
  |false=>∃d,x=.ret d/\sv C w0 σ0 fn s d a.tmps a.defers w/\SameBut wr a0 a
  |true=>∃O S,x=.exit cY O/\(cY,S)∈ex/\SameBut wr a0 a/\Good C w0 σ0 (S.st ids) O (λ_=>False) a w
 |_,_,_=>False
def Good.meet1 {x y:Snap}(h:Good C w0 σ0 (x.st ids) O A a w):Good C w0 σ0 ((x.meet y).st ids) O (λ_=>False) a w:=by
 obtain⟨V,own,hv,h⟩:=h;exact⟨V,own,hv,Snap.meet_ok1 h⟩
def Good.meet2 {x y:Snap}(h:Good C w0 σ0 (y.st ids) O A a w):Good C w0 σ0 ((x.meet y).st ids) O (λ_=>False) a w:=by
 obtain⟨V,own,hv,h⟩:=h;exact⟨V,own,hv,Snap.meet_ok2 h⟩
def ad9 {x:Snap}{y:Option Snap}{M:Snap}(h:Good C w0 σ0 (x.st ids) O (λ_=>False) a w)(hm:nK (some x) y=some M):Good C w0 σ0 (M.st ids) O (λ_=>False) a w:=by
 cases y<;>simp[nK] at hm<;>subst hm
 .exact h
 .exact h.meet1
def aea {x:Option Snap}{y:Snap}{M:Snap}(h:Good C w0 σ0 (y.st ids) O (λ_=>False) a w)(hm:nK x (some y)=some M):Good C w0 σ0 (M.st ids) O (λ_=>False) a w:=by
 cases x<;>simp[nK] at hm<;>subst hm
 .exact h
 .exact h.meet2
def aeb {x:Snap}{y:Option Snap}:∃M,nK (some x) y=some M:=by cases y<;>simp[nK]
def aec {x:Option Snap}{y:Snap}:∃M,nK x (some y)=some M:=by cases x<;>simp[nK]
def Mb {id:Nat}:∀(l:List (Nat×Snap)) {x:Snap},Good C w0 σ0 (x.st ids) O (λ_=>False) a w->∃M,qd id l (some x)=some M/\Good C w0 σ0 (M.st ids) O (λ_=>False) a w
 |[],x,h=>⟨x,rfl,h⟩
 |y::l,x,h=>by
  simp only[qd];cases Nat.beq y.1 id
  .exact Mb l h
  .obtain⟨M,hM⟩:=@aeb x (some y.2);simp only[zyy,hM];exact Mb l (ad9 h hM)
def SP {id:Nat}{S:Snap}(h:Good C w0 σ0 (S.st ids) O (λ_=>False) a w):∀(l:List (Nat×Snap)) (x:Option Snap),(id,S)∈l->∃M,qd id l x=some M/\Good C w0 σ0 (M.st ids) O (λ_=>False) a w
 |y::l,x,hm=>by
  simp only[qd];rcases cQ.1 hm with e|hm
  .subst e;simp only[iK,zyy];obtain⟨M,hM⟩:=@aec x S;rw[hM];exact Mb l (aea h hM)
  .exact SP h l _ hm
def Gb {step:Snap->Option Res2}:∀(k:Nat) {S:Snap} {r:Snap×Res2},iter step k S=some r->
 step r.1=some r.2/\(∀T,r.2.out=some T->r.1.meet T=r.1)/\∀{O:Env} {a:Act} {w:World},Good C w0 σ0 (S.st ids) O (λ_=>False) a w->Good C w0 σ0 (r.1.st ids) O (λ_=>False) a w
 |0,S,r,h=>by simp[iter] at h
 |k+1,S,r,h=>by
  simp only[iter,aA] at h;obtain⟨q,hq,h⟩:=h;split at h
  .rename_i ho;cases h;exact⟨hq,λT hT=>by simp[ho] at hT,λg=>g⟩
  .rename_i T ho;cases hb:(S.meet T).beq S<;>simp only[hb,zyy,zyx] at h
   .obtain⟨h1,h2,h3⟩:=Gb k h;exact⟨h1,h2,λg=>h3 g.meet1⟩
   .cases h;refine⟨hq,λT' hT=>?_,λg=>g⟩;simp only[ho,aZ] at hT;subst hT;exact Snap.beq_eq _ _ hb
def adb {step:Snap->Option Res2}{hv:Nat->Value}:∀(k:Nat) {S:Snap} {r:Snap×Res2},iter step k S=some r->Inv C (S.st ids) O V own hv w0 σ0 (λ_=>False) a w->Inv C (r.1.st ids) O V own hv w0 σ0 (λ_=>False) a w
 |0,S,r,h,_=>by simp[iter] at h
 |k+1,S,r,h,i=>by
  simp only[iter,aA] at h;obtain⟨q,hq,h⟩:=h;split at h
  .cases h;exact i
  .rename_i T ho;cases hb:(S.meet T).beq S<;>simp only[hb,zyy,zyx] at h
   .exact adb k h (Snap.meet_ok1 i)
   .cases h;exact i
def Good.joined {M:Snap}{m:Nat}{mo mr' mo':List Nat}(h:Good C w0 σ0 (M.st ids) O' (λ_=>False) a w)(hb:O.but O' mr' mo')(h1:∀t,t∈mr'->aB m t=true)(h2:∀j,j∈mo'->j∈mo):
 Good C w0 σ0 (M.st ids) (O.join (lE M m) (km ids M mo) O') (λ_=>False) a w:=by
 obtain⟨V,own,hv,h⟩:=h;refine⟨V,own,hv,h.env (Snap.noOpt _ _) (λt ht=>?_) (λj hj=>?_)⟩
 .simp only[Env.join,Env.put,va];split
  .rfl
  .rename_i hm;refine(hb.r t λFG=>hm ?_).symm;have ao:t<M.rs.length:=by
        refine ZU λhle=>?_;simp only[Snap.st,aL,tP hle,Option.getD_none,cP,isNone] at ht;cases ht
   exact eg.2 ⟨cu.2 ao,by rw[h1 t FG];simpa [Snap.st] using ht⟩
 .simp only[Env.join,Env.put,va];split
  .rfl
  .rename_i hm;refine(hb.o j λFG=>hm ?_).symm;exact eg.2 ⟨h2 j FG,by simpa [Snap.st] using hj⟩
def Mc {S:Snap}{m t:Nat}(h:t∈lE S m):aB m t=true:=by
 have:=(eg.1 h).2;simp only[av] at this;exact this.1
def Cv {S:Snap}{l:List Nat}{j:Nat}(h:j∈km ids S l):j∈l:=(eg.1 h).1
def aah {id:Nat}{q:Res2}(h:(∀t,t∈q.pc.modR->aB q.mr t=true)/\∀j,j∈q.pc.modO->j∈q.mo):(∀t,t∈(hZ ids id q).pc.modR->aB (hZ ids id q).mr t=true)/\∀j,j∈(hZ ids id q).pc.modO->j∈(hZ ids id q).mo:=by
 unfold hZ;cases hm:qd id q.ex q.out<;>simp only
 .simpa [PC.modR,PC.modO] using h
 .refine⟨λt ht=>?_,λj hj=>?_⟩
  .simp only[PC.modR,dR] at ht;exact ht.elim Mc (h.1 t)
  .simp only[PC.modO,dR] at hj;exact hj.elim Cv (h.2 j)
def atP {p:MP}{ws:List Nat}{f:Snap->Option Res2}{S:Snap}{r:Res2}(h:Cu ids n p ws f S=some r):(∀t,t∈r.pc.modR->aB r.mr t=true)/\∀j,j∈r.pc.modO->j∈r.mo:=by
 unfold Cu at h;split at h
 case h_2=>cases h;exact nY
 split at h
 case h_2=>cases h;exact nY
 simp only at h;split at h
 case h_2=>cases h;exact nY
 rw[qD] at h;split at h
 .cases h;refine⟨λt ht=>by simp[PC.modR] at ht,λj hj=>?_⟩;simp only[PC.modO,nm] at hj;exact Cv hj
 .cases h;exact nY
def vV:∀(c:Code) {rm:Bool} {S:Snap} {r:Res2},comp C fn s n ids R rm c S=some r->(∀t,t∈r.pc.modR->aB r.mr t=true)/\∀j,j∈r.pc.modO->j∈r.mo:=by
 intro c
 induction c with
 |skip=>intro rm S r h;simp only[comp,aZ] at h;subst h;simp[PC.modR,PC.modO]
 |region id ops draw=>
  intro rm S r h;simp only[comp,aD] at h;obtain⟨q,_,rfl⟩:=h;exact⟨λt ht=>ad1 _ ht,λj hj=>atY _ hj⟩
 |seq x y kl zh=>
  intro rm S r h;simp only[comp,aA] at h;obtain⟨q,hq,h⟩:=h;split at h
  .cases h;exact kl hq
  .simp only[aD] at h;obtain⟨p,hp,rfl⟩:=h;refine⟨λt ht=>?_,λj hj=>?_⟩
   .simp only[PC.modR,dR] at ht;rw[fS,gJ];exact ht.imp ((kl hq).1 t) ((zh hp).1 t)
   .simp only[PC.modO,dR] at hj;rw[rz];exact hj.imp ((kl hq).2 j) ((zh hp).2 j)
 |cond c x y kl zh=>
  intro rm S r h;simp only[comp] at h;split at h
  case h_2=>cases h;exact nY
  rename_i e _;simp only[aA,aD] at h;obtain⟨q,hq,p,hp,rfl⟩:=h;cases hm:nK q.out p.out<;>simp only[hm]
  .refine⟨λt ht=>?_,λj hj=>?_⟩
   .simp only[PC.modR,dR,vO] at ht;rw[fS,gJ];exact ht.imp ((kl hq).1 t) ((zh hp).1 t)
   .simp only[PC.modO,dR,vO] at hj;rw[rz];exact hj.imp ((kl hq).2 j) ((zh hp).2 j)
  .refine⟨λt ht=>?_,λj hj=>?_⟩
   .simp only[PC.modR,dR] at ht;rw[fS,gJ];rcases ht with(ht|ht)|ht
    .have:=Mc ht;rw[fS,gJ] at this;exact this
    .exact .inl ((kl hq).1 t ht)
    .exact .inr ((zh hp).1 t ht)
   .simp only[PC.modO,dR] at hj;rcases hj with(hj|hj)|hj
    .exact Cv hj
    .exact rz.2 (.inl ((kl hq).2 j hj))
    .exact rz.2 (.inr ((zh hp).2 j hj))
 |block id x kl=>
  intro rm S r h;simp only[comp] at h;cases cR:Nat.beq id cY<;>simp only[cR,zyy,zyx] at h
  case true=>cases h;exact nY
  simp only[aD] at h;obtain⟨q,hq,rfl⟩:=h;exact aah (kl hq)
 |loop x kl=>
  intro rm S r h;rw[aaD] at h;split at h
  .exact atP h
  split at h
  case h_2=>cases h;exact nY
  rename_i q hq;cases h;have hs:=(Gb (C:=C) (w0:=default) (σ0:=Base.mk0 ⟨λ_ _=>none,λ_=>none⟩ 0) (ids:=ids) 8 hq).1;refine⟨λt ht=>?_,λj hj=>?_⟩
  .simp only[PC.modR,dR] at ht;exact ht.elim Mc ((kl hs).1 t)
  .simp only[PC.modO,dR] at hj;exact hj.elim Cv ((kl hs).2 j)
 |exit id=>
  intro rm S r h;simp only[comp] at h;cases cR:Nat.beq id cY<;>simp only[cR,zyy,zyx] at h<;>cases h
  .simp[PC.modR,PC.modO]
  .exact nY
 |ret=>
  intro rm S r h;simp only[comp] at h;cases rm<;>simp only[zyy,zyx] at h
  case true=>cases h;simp[PC.modR,PC.modO]
  split at h
  .cases h;simp[PC.modR,PC.modO]
  .cases h;exact nY
 |rangeFunc g ps x y _ _=>
  intro rm S r h;simp only[comp] at h;split at h
  case h_2=>cases h;exact nY
  split at h
  case h_2=>cases h;exact nY
  split at h
  case h_2=>cases h;exact nY
  rename_i q hq;rw[qD] at h;split at h
  .cases h;refine⟨λt ht=>?_,λj hj=>?_⟩
   .simp[PC.modR,PI.modR] at ht;subst ht;exact sD _
   .simp only[PC.modO,PI.modO,xQ,ZO,nm,vO] at hj;exact(eg.1 hj).1
  .cases h;exact nY
 |_=>intro rm S r h;simp only[comp,aZ] at h;subst h;exact nY
def iM.mono {rm:Bool}{wr:Nat->Prop}{a0 a1:Act}{out agn:Option Snap}{ex ex':List (Nat×Snap)}{x:Out}{e:Exit}(h:iM C w0 σ0 ids fn s rm wr a0 out ex x e a w)(he:∀y,y∈ex->y∈ex')(hs:SameBut wr a1 a0)
 (ho:e=.normal->agn=out):iM C w0 σ0 ids fn s rm wr a1 agn ex' x e a w:=by
 cases e with
 |normal=>obtain⟨O,S,h1,h2,h3,h4⟩:=h;exact⟨O,S,h1,by rw[ho rfl];exact h2,hs.trans h3,h4⟩
 |exit id=>obtain⟨O,S,h1,h2,h3,h4,h5⟩:=h;exact⟨O,S,h1,h2,he _ h3,hs.trans h4,h5⟩
 |ret=>
  cases rm with
  |false=>obtain⟨d,h1,h2,h3⟩:=h;exact⟨d,h1,h2,hs.trans h3⟩
  |true=>obtain⟨O,S,h1,h3,h4,h5⟩:=h;exact⟨O,S,h1,he _ h3,hs.trans h4,h5⟩
 |_=>exact h.elim
def aaQ {body:Env->Option Out}{O:Env}{ps lo:List Nat}{rt:Option PE}{x:Out}:∀{xs vo:List D},ia body O ps lo rt xs vo=some x->
 ∃(m:Nat) (oc:Nat->List D),m<=xs.length/\oc 0=vo/\
  (∀i,i<m->∃y O',xs[i]?=some y/\body (O.put ps (partsOf ps y) lo (oc i))=some (.next O')/\lo.map O'.o=oc (i+1))/\
  ((m=xs.length/\x=.next (O.put [] [] lo (oc m)))\/
   (m<xs.length/\∃y id O',xs[m]?=some y/\body (O.put ps (partsOf ps y) lo (oc m))=some (.exit id O')/\
    ((id≠cY/\x=.exit id (O.put [] [] lo (lo.map O'.o)))\/(id=cY/\∃e,rt=some e/\x=.ret (e.ev (O.put [] [] lo (lo.map O'.o)))))))
 |[],vo,h=>by
  simp only[ia,aZ] at h;exact⟨0,λ_=>vo,bB _,rfl,λi hi=>by omega,.inl ⟨rfl,h.symm⟩⟩
 |y::xs,vo,h=>by
  simp only[ia] at h;split at h
  .rename_i O' hb;obtain⟨m,oc,h1,h2,h3,h4⟩:=aaQ h;refine⟨m+1,λi=>match i with|0=>vo|i+1=>oc i,by simp;omega,rfl,λi hi=>?_,?_⟩
   .cases i with
    |zero=>exact⟨y,O',rfl,hb,h2.symm⟩
    |succ i=>simpa using h3 i (by omega)
   .rcases h4 with⟨e1,e2⟩|⟨e1,z,id,O2,e2,e3,e4⟩
    .exact .inl ⟨by simp[e1],e2⟩
    .exact .inr ⟨by simp;omega,z,id,O2,by simpa using e2,e3,e4⟩
  .rename_i id O' hb;refine⟨0,λ_=>vo,om _,rfl,λi hi=>by omega,.inr ⟨by simp,y,id,O',rfl,hb,?_⟩⟩;cases cR:Nat.beq id cY<;>simp only[cR,zyy,zyx] at h
   .refine .inl ⟨λe=>?_,(D1 h).symm⟩;subst e;simp at cR
   .simp only[aD] at h;obtain⟨e,he,e2⟩:=h;exact .inr ⟨aE cR,e,he,e2.symm⟩
  .cases h
def aaf {l:List Nat}{t:Nat}(h:t∈l):aB (zp l) t=true:=by
 induction l with
 |nil=>cases h
 |cons x l ih=>
  have e:zp (x::l)=Nat.lor (eh x) (zp l):=rfl;rw[e,fS];rcases cQ.1 h with e|e
  .subst e;rw[sD];rfl
  .rw[ih e];simp
def SN (m:Nat):∀(l:List Sh) (k t:Nat),(uW m k l).getD t .none=if aB m (k+t)=true then .none else l.getD t .none
 |[],k,t=>by simp[uW]
 |s::l,k,0=>by
  simp only[uW,vJ,jB];cases aB m k<;>rfl
 |s::l,k,t+1=>by
  simp only[uW,DV];rw[SN m l (k+1) t,show k+1+t=k+(t+1) by omega]
def Gk (m:Nat)(S:Snap)(t:Nat):((S.mask m).st ids).r t=if aB m t=true then .none else(S.st ids).r t:=by
 show cP ((uW m 0 S.rs).getD t .none)=if aB m t=true then .none else cP (S.rs.getD t .none);rw[SN,iL];split<;>rfl
def atW {m:Nat}{x S:Snap}{t:Nat}(h:aB m t=true):((x.meet (S.mask m)).st ids).r t=.none:=by
 show cP ((List.zipWith ko x.rs (uW m 0 S.rs)).getD t .none)=.none;rcases Oo (f:=ko) x.rs (uW m 0 S.rs) t with h0|⟨s,u,h1,h2,h3⟩
 .rw[h0];rfl
 .rw[SN,iL,if_pos h] at h2;subst h2;rw[h3];cases s<;>rfl
def Inv.maskR {S:Snap}{hv:Nat->Value}(h:Inv C (S.st ids) O V own hv w0 σ0 A a w)(m:Nat):Inv C ((S.mask m).st ids) O V own hv w0 σ0 (λ_=>False) a w:=by
 have hc:Compat (S.st ids) hv ((S.mask m).st ids) hv:=⟨λ_=>bB _,λ_ _=>rfl⟩
 refine h.weaken (λt=>?_) (λj=>?_) (Snap.noOpt _ _) (λj hj=>⟨hj,rfl⟩)
 .refine aI.mono' (O:=O) (.refl V) hc (Snap.noOpt _ _ t) ?_;rw[Gk];split
  .trivial
  .exact h.regs t
 .exact(h.objs j).mono (.refl V) hc rfl rfl (λk hk=>⟨hk,rfl⟩)
def V6:∀(ps:List Nat) (ys:List Ty) (l:List Sh),ps.length=ys.length->iu ps=true->∀t,(tF ps ys l).getD t .none=.none\/(t∉ps/\(tF ps ys l).getD t .none=l.getD t .none)\/∃(i:Nat) (y:Ty),ps[i]?=some t/\ys[i]?=some y/\(tF ps ys l).getD t .none=.dat y
 |[],ys,l,_,_,t=>.inr (.inl ⟨by simp,by cases ys<;>rfl⟩)
 |p::ps,[],l,h,_,t=>by simp at h
 |p::ps,y::ys,l,h,hn,t=>by
  have iV:=nL hn;rw[oh] at iV;have dA:iu ps=true:=by
   simp only[iu,av] at hn;exact hn.2
  show(tF ps ys (l.set p (.dat y))).getD t .none=_\/_\/_;rcases V6 ps ys (l.set p (.dat y)) (by simpa using h) dA t with e|⟨e1,e2⟩|⟨i,z,e1,e2,e3⟩
  .exact .inl e
  .by_cases hp:t=p
   .subst hp;by_cases ao:t<l.length
    .exact .inr (.inr ⟨0,y,rfl,rfl,by show(tF ps ys (l.set t (.dat y))).getD t .none=_;rw[e2];simp[aL,ao]⟩)
    .left;rw[e2];simp[aL,ao]
   .refine .inr (.inl ⟨by simp[hp,e1],?_⟩);show(tF ps ys (l.set p (.dat y))).getD t .none=_;rw[e2];simp only[aL,DW];rw[if_neg (λe=>hp e.symm)]
  .exact .inr (.inr ⟨i+1,z,by simpa using e1,by simpa using e2,e3⟩)
def nU:List Nat->List Value->Array Value->Array Value
 |p::ps,v::vs,T=>nU ps vs (T.setIfInBounds p v)
 |_,_,T=>T
def axu (ps:Array Nat)(vs:Array Value)(T:Array Value):(ps.zip vs).foldl (λT x=>T.setIfInBounds x.1 x.2) T=nU ps.toList vs.toList T:=by
 rw[<-Array.foldl_toList,Array.toList_zip];generalize ps.toList=l;generalize vs.toList=k
 induction l generalizing k T with
 |nil=>rfl
 |cons p l ih=>
  cases k with
  |nil=>rfl
  |cons v k=>simpa [nU] using ih (T.setIfInBounds p v) k
def aix:∀(ps:List Nat) (vs:List Value) (T:Array Value),(nU ps vs T).size=T.size
 |[],vs,T=>by cases vs<;>rfl
 |p::ps,[],T=>rfl
 |p::ps,v::vs,T=>by simp[nU,aix ps vs]
def NQ:∀(ps:List Nat) (vs:List Value) (T:Array Value) (t:Nat),t∉ps->(nU ps vs T).getD t undef=T.getD t undef
 |[],vs,T,t,_=>by cases vs<;>rfl
 |p::ps,[],T,t,_=>rfl
 |p::ps,v::vs,T,t,h=>by
  simp only[cQ,not_or] at h;simp only[nU];rw[NQ ps vs _ t h.2];simp only[eG,xI];rw[if_neg (λe=>h.1 e.symm)]
def aiw:∀(ps:List Nat) (vs:List Value) (T:Array Value) (i t:Nat),ps.Nodup->ps.length=vs.length->(∀p,p∈ps->p<T.size)->ps[i]?=some t->(nU ps vs T).getD t undef=vs.getD i undef
 |p::ps,v::vs,T,0,t,hn,hl,ao,h=>by
  simp at h;subst h;rw[oh] at hn;simp only[nU];rw[NQ ps vs _ p hn.1];simp[xI,ao p (dS ..)]
 |p::ps,v::vs,T,i+1,t,hn,hl,ao,h=>by
  rw[oh] at hn;simp only[nU];have:=aiw ps vs (T.setIfInBounds p v) i t hn.2 (by simpa using hl) (λq hq=>by simpa using ao q (dK _ hq)) (by simpa using h);simpa using this
 |p::ps,[],T,i,t,hn,hl,ao,h=>by simp at hl
 |[],vs,T,i,t,hn,hl,ao,h=>by simp at h
def CW (f:Nat->D):∀(ps:List Nat) (vs:List D) (t:Nat),t∉ps->putL f ps vs t=f t
 |[],vs,t,_=>by cases vs<;>rfl
 |p::ps,[],t,_=>rfl
 |p::ps,v::vs,t,h=>by
  simp only[cQ,not_or] at h;simp only[putL,bF _ _ h.1];exact CW f ps vs t h.2
def Ua (f:Nat->D):∀(ps:List Nat) (vs:List D) (i t:Nat),ps.Nodup->ps.length=vs.length->ps[i]?=some t->putL f ps vs t=vs.getD i .none
 |p::ps,v::vs,0,t,hn,hl,h=>by
  simp at h;subst h;simp[putL,aP]
 |p::ps,v::vs,i+1,t,hn,hl,h=>by
  rw[oh] at hn;have ht:t∈ps:=mw (by simpa using h);have aF:t≠p:=λe=>hn.1 (e▸ht);simp only[putL,bF _ _ aF];have:=Ua f ps vs i t hn.2 (by simpa using hl) (by simpa using h);simpa using this
 |p::ps,[],i,t,hn,hl,h=>by simp at hl
 |[],vs,i,t,hn,hl,h=>by simp at h
def avp (ps:List Nat)(ds:List D)(i:Nat)(h:i<ps.length):(partsOf ps (.tup ds)).getD i .none=ds.getD i .none:=by
 simp[partsOf,aL,h,D.tget]
def avo (ps:List Nat)(x:D):(partsOf ps x).length=ps.length:=by simp[partsOf]
def Inv.startR {S:Snap}{hv:Nat->Value}(h:Inv C (S.st ids) O V own hv w0 σ0 A a w){ps:List Nat}{ys:List Ty}{args:List Value}{ds:List D}{lo:List Nat}{vo:List D}(hl:ps.length=ys.length)(bz:iu ps=true)(ao:∀p,p∈ps->p<a.tmps.size)(ha:qC C V ys args ds)
 (hρ:O=O'.put [] [] lo vo):Inv C ((S.start ps ys).st ids) (O'.put ps (partsOf ps (.tup ds)) lo vo) V own hv w0 σ0 (λ_=>False) {tmps:=nU ps args a.tmps,defers:=[]} w:=by
 obtain⟨a1,a2,a3⟩:=ha;have hn:=nL bz;have hc:Compat (S.st ids) hv ((S.start ps ys).st ids) hv:=⟨λ_=>bB _,λ_ _=>rfl⟩
 have ho:∀j,(O'.put ps (partsOf ps (.tup ds)) lo vo).o j=O.o j:=λj=>by rw[hρ];rfl
 refine⟨trivial,h.ok,h.le,h.old,h.newc,h.newm,h.below,h.bw,h.owns,λt=>?_,λj=>(h.objs j).mono (.refl V) hc rfl (ho j) (λk hk=>⟨hk,rfl⟩),λt gs s e=>absurd e (Snap.noOpt _ _ t gs s),?_⟩
 .show aI C _ _ V hv (cP ((tF ps ys (S.rs.map uE)).getD t .none)) ((nU ps args a.tmps).getD t undef) (putL O'.r ps (partsOf ps (.tup ds)) t);rcases V6 ps ys (S.rs.map uE) hl bz t with e|⟨e1,e2⟩|⟨i,y,e1,e2,e3⟩
  .rw[e];trivial
  .rw[e2,NQ _ _ _ _ e1,CW _ _ _ _ e1];have hr:=h.regs t;change aI C _ O V hv (cP (S.rs.getD t .none)) _ _ at hr;have hρr:O.r t=O'.r t:=by rw[hρ];show putL O'.r [] [] t=_;rfl
   rw[hρr] at hr;have e3:(S.rs.map uE).getD t .none=uE (S.rs.getD t .none):=by
        simp only[aL,cM];cases S.rs[t]?<;>rfl
   rw[e3];generalize S.rs.getD t .none=s at hr;cases s with
   |yv=>trivial
   |opt gs s=>trivial
   |none=>trivial
   |fclo f c=>exact aI.mono' (.refl V) hc (λ_ _ e=>by cases e) hr
   |agg l=>exact aI.mono' (.refl V) hc (λ_ _ e=>by cases e) hr
   |dat t=>exact hr
   |obj j v=>exact aI.mono' (.refl V) hc (λ_ _ e=>by cases e) hr
   |ptr j v o=>exact aI.mono' (.refl V) hc (λ_ _ e=>by cases e) hr
   |eptr j v o q=>exact aI.mono' (.refl V) hc (λ_ _ e=>by cases e) hr
  .rw[e3];have hi:i<ps.length:=(fo.1 e1).1;rw[aiw ps args a.tmps i t hn (by omega) ao e1,Ua _ ps _ i t hn (by rw[avo]) e1,avp _ _ _ hi];exact a3 i y e2
 .obtain⟨t,fx,cx,h1,h2⟩:=h.frame;exact⟨t,fx,cx,h1,λj hj=>⟨(h2 j hj).1,by rw[ho j];exact(h2 j hj).2⟩⟩
def xU (C:Ctx)(Z:aW)(fn:Func)(s:Sig)(n:Nat)(ids:List Nat)(R:Array Oper->Bool->Snap->Option (Snap×List PI))(N:Nat)(c:Code):Prop:=
 ∀(rm:Bool) (S:Snap) (r:Res2),comp C fn s n ids R rm c S=some r->∀(rd:Option Nat) (w0:World) (σ0:Base) (wr:Nat->Prop) (O:Env) (x:Out) (a:Act) (w:World),(rm=false->rd=none/\σ0.fin)->CtxOK C σ0->qJ C Z w0 σ0->(∀t,t∈cN c->wr t)->a.tmps.size=n->
  Good C w0 σ0 (S.st ids) O (λ_=>False) a w->r.pc.ev Z N O=some x->c.wpIn (FR rd) 0 C.P (iM C w0 σ0 ids fn s rm wr a r.out r.ex x) a w
structure Seg (V:Im) (own:Nat->Option Nat) (w:World) (V':Im) (own':Nat->Option Nat) (w':World):Prop where
 le:V.le V'
 below:Below 0 w w'
 same:∀k,k<w.heap.size->own k=none->w'.heap[k]?=w.heap[k]?
 ow:∀k j,own' k=some j->(∃i,own k=some i)\/w.heap.size<=k
 imm:∀k,((∃o x,V'.c k o=some x)\/∃x,V'.m k=some x)->(∃o x,V.c k o=some x)\/(∃x,V.m k=some x)\/(∃i,own k=some i)\/w.heap.size<=k
structure Free (L:Nat) (V:Im) (own:Nat->Option Nat):Prop where
 own:own L=none
 c:∀o,V.c L o=none
 m:V.m L=none
def Free.seg {L:Nat}{V':Im}{own':Nat->Option Nat}{w':World}(h:Free L V own)(hL:L<w.heap.size)(k:Seg V own w V' own' w'):Free L V' own':=by
 have Fx:¬((∃o x,V'.c L o=some x)\/∃x,V'.m L=some x):=λe=>by
  rcases k.imm L e with⟨o,x,e⟩|⟨x,e⟩|⟨i,e⟩|e
  .rw[h.c o] at e;cases e
  .rw[h.m] at e;cases e
  .rw[h.own] at e;cases e
  .omega
 refine⟨?_,λo=>?_,?_⟩
 .cases e:own' L with
  |none=>rfl
  |some j=>
   rcases k.ow L j e with⟨i,e⟩|e
   .rw[h.own] at e;cases e
   .omega
 .cases e:V'.c L o with
  |none=>rfl
  |some x=>exact absurd (.inl ⟨o,x,e⟩) Fx
 .cases e:V'.m L with
  |none=>rfl
  |some x=>exact absurd (.inr ⟨x,e⟩) Fx
def aj1 (C:Ctx)(w0:World)(σ0:Base)(ids:List Nat)(wr:Nat->Prop)(a0:Act)(V:Im)(own:Nat->Option Nat)(w:World)(out:Option Snap)(ex:List (Nat×Snap))(x:Out)(e:Exit)(a':Act)(w':World):Prop:=
 ∃O' S' V' own' hv',Inv C (S'.st ids) O' V' own' hv' w0 σ0 (λ_=>False) a' w'/\Seg V own w V' own' w'/\SameBut wr a0 a'/\
  match e with
  |.normal=>x=.next O'/\out=some S'
  |.exit id=>x=.exit id O'/\id≠cY/\(id,S')∈ex
  |.ret=>x=.exit cY O'/\(cY,S')∈ex
  |_=>False
def air {N:Nat}{c:Code}(hc:xU C Z fn s n ids R N c){S:Snap}{r:Res2}(hr:comp C fn s n ids R true c S=some r)(lC:C.yl=none)(hC:CtxOK C σ0){wr:Nat->Prop}{O:Env}{x:Out}{hv:Nat->Value}(h:Inv C (S.st ids) O V own hv w0 σ0 (λ_=>False) a w)
 (jn:∀t,t∈cN c->wr t) (hn:a.tmps.size=n) (he:r.pc.ev Z N O=some x) (L:Nat):c.wpIn (FR (some L)) 0 C.P (aj1 C w0 σ0 ids wr a V own w r.out r.ex x) a w:=by
 obtain⟨t,fx,cx,dq,ht⟩:=h.frame;have h1:=h.toRnd (X:=λ_=>False) ht;refine wpIn_mono (hc true S r hr (some L) w0 (σ0.rnd V own w t λ_=>False) wr O x a w (λe=>by cases e) (hC.mono h.le) (λJ ys e=>by rw[lC] at e;cases e) jn hn ⟨_,_,_,h1⟩ he) λe a' w' ho=>?_
 have main:∀{S':Snap} {O':Env},SameBut wr a a'->Good C w0 (σ0.rnd V own w t λ_=>False) (S'.st ids) O' (λ_=>False) a' w'->∃V' own' hv',Inv C (S'.st ids) O' V' own' hv' w0 σ0 (λ_=>False) a' w'/\Seg V own w V' own' w'/\SameBut wr a a':=by
  intro S' O' hs hg;obtain⟨V',own',hv',h2⟩:=hg;exact⟨V',own',hv',h.ofRnd dq (λ_ _=>id) h2,⟨h2.le,h.rndBelow h2,λk hk ho=>Inv.rndSame h.ok h2 hk ho id,λk j e=>Inv.rndOwn h2 e id,λk e=>Inv.rndC h2 e id⟩,hs⟩
 cases e with
 |normal=>
  obtain⟨O',S',e1,e2,e3,e4⟩:=ho;obtain⟨V',own',hv',g1,g2,g3⟩:=main e3 e4;exact⟨O',S',V',own',hv',g1,g2,g3,e1,e2⟩
 |exit id=>
  obtain⟨O',S',e1,e0,e2,e3,e4⟩:=ho;obtain⟨V',own',hv',g1,g2,g3⟩:=main e3 e4;exact⟨O',S',V',own',hv',g1,g2,g3,e1,e0,e2⟩
 |ret=>
  obtain⟨O',S',e1,e2,e3,e4⟩:=ho;obtain⟨V',own',hv',g1,g2,g3⟩:=main e3 e4;exact⟨O',S',V',own',hv',g1,g2,g3,e1,e2⟩
 |_=>exact ho.elim
def Inv.putL {L:Nat}{hv:Nat->Value}{S:St}{O:Env}(h:Inv C S O V own hv w0 σ0 A a w)(hL:w0.heap.size<=L)(hf:Free L V own)(hx:∀t fx cx,FrOK V own w0.heap.size σ0 w t fx cx->¬fx L)(o:Obj):Inv C S O V own hv w0 σ0 A a (w.putObj L o):=
 h.keep (X:=λk=>k≠L) ⟨rfl,rfl,rfl,by simp,λk hk=>by omega⟩ (λk hk=>World.putObj_heap_other hk) (λk hk=>by omega) (λk j e1 e2=>by subst e2;rw[hf.own] at e1;cases e1) (λk o v e1 e2=>by subst e2;rw[hf.c] at e1;cases e1)
  (λk v e1 e2=>by subst e2;rw[hf.m] at e1;cases e1) (λt fx cx dq k hk e=>by subst e;exact hx t fx cx dq hk)
def aBq {o:Oper}{L:Nat}{x:Operand}{aa:Array Operand}{ts:Array TypeId}{r:Loop}(bV:o.op=.call {callee:=.value x,args:=aa,argTypes:=ts})(hx:a.eval x=.func (.yield L) #[] #[])(hL:w.heap[L]?=some (.loop r))(hs:aa.size=r.params.size):
 (execOp a.eval o).run C.P w=.ok (.round L r.fn ((r.params.zip (aa.map a.eval)).foldl (λtmps (t,v)=>tmps.setIfInBounds t v) r.tmps) r.assign r.body) w:=by
 have hy:=run_yield (P:=C.P) (args:=aa.map a.eval) hL (by simpa using hs);simp[execOp,bV,resolve,hx,Deferred.ofValue,invoke,hy]
def awF {g:Operand}{f:Nat}{vs:List Value}{L:Nat}(hf:∃fn,C.P.funcs[f]?=some fn/\fn.body.isSome=true/\(fn.name== "runtime.NumGoroutine")=false)(hg:a.eval g=.func (.func f) #[] vs.toArray):
 (resolve a.eval (rangeCall g L) 0).run C.P w=.ok {target:=.fn (.func f) vs.toArray,args:=#[.func (.yield L) #[] #[]]} w/\
 (invoke (.fn (.func f) vs.toArray) #[.func (.yield L) #[] #[]]).run C.P w=.ok (.enter f (#[.func (.yield L) #[] #[]]++vs.toArray)) w:=by
 obtain⟨fn,h1,h2,h3⟩:=hf;obtain⟨bd,ic⟩:=ZV.1 h2;have h4:¬fn.name= "runtime.NumGoroutine" :=by simpa using h3
 constructor
 .simp only[resolve,hg];simp[go_sem]
 .simp[invoke,callFunc,h1,ic,h4]
def FrOK.enter {hv:Nat->Value}{S:St}{O:Env}(h:Inv C S O V own hv w0 σ0 A a w){t:D}{fx cx:Nat->Prop}(hf:FrOK V own w0.heap.size σ0 w t fx cx)(r:Loop):FrOK (V.mark w.heap.size) own w0.heap.size σ0 ((w.alloc (.deferred (some []))).alloc (.loop r)) t fx cx:=by
 have hb:=aaT w (.deferred (some [])) (.loop r);have ao:=σ0.lt _ _ _ _ hf.F;have cq:=σ0.sub _ _ _ _ hf.F;have FE:∀k x,(V.mark w.heap.size).m k=some x->V.m k=some x\/k=w.heap.size:=by
  intro k x e;simp only[Im.mark] at e;split at e
  .rename_i e2;exact .inr e2
  .exact .inl e
 refine⟨σ0.keep _ _ _ _ _ hf.F (hb.mono (om _)) λk hk=>hb.block k (ao k hk),hf.own,hf.c,λk x e hc=>?_,λk e hB hk=>?_⟩
 .rcases FE k x e with e|e
  .exact hf.m k x e hc
  .have:=ao k (cq k hc);omega
 .rcases FE k _ e with e|e
  .exact hf.d k e hB hk
  .have:=ao k hk;omega
structure RSt (C:Ctx) (w0:World) (σR:Base) (ids:List Nat) (ρ1:Env) (lo:List Nat) (aM:Act) (L:Nat) (W1:World) (σ1:Im) (rec:LoopState->Option Code->Loop) (xs:List D) (P:Nat->List D->Snap->LoopState->Option Code->Prop) (t:D) (fx cx:Nat->Prop) (w:World):Prop where
 lt:∀k,fx k->k<w.heap.size
 sub:∀k,cx k->fx k
 old:∀k,k<W1.heap.size->fx k
 ex:∃(i:Nat) (vo:List D) (Sx:Snap) (st:LoopState) (pe:Option Code) (V:Im) (own:Nat->Option Nat) (hv:Nat->Value),t=.list (xs.take i)/\P i vo Sx st pe/\Inv C (Sx.st ids) (ρ1.put [] [] lo vo) V own hv w0 σR (λ_=>False) aM w/\
  σ1.le V/\Free L V own/\w.heap[L]?=some (.loop (rec st pe))/\(∀k j,own k=some j->fx k)/\(∀k o x,V.c k o=some x->fx k)/\(∀k x,V.m k=some x->fx k)/\∀k,cx k↔((∃j,own k=some j)\/k=L)
def RSt.keep {σR:Base}{ρ1:Env}{lo:List Nat}{aM:Act}{L:Nat}{W1:World}{σ1:Im}{rec:LoopState->Option Code->Loop}{xs:List D}{P:Nat->List D->Snap->LoopState->Option Code->Prop}{t:D}{fx cx:Nat->Prop}{w w':World}
 (h0:w0.heap.size<=W1.heap.size) (hL:L<W1.heap.size) (hR:∀t f c w,σR.F t f c w->∀k,f k->k<W1.heap.size) (h:RSt C w0 σR ids ρ1 lo aM L W1 σ1 rec xs P t fx cx w) (hb:Below 0 w w') (hs:∀k,fx k->w'.heap[k]?=w.heap[k]?):
 RSt C w0 σR ids ρ1 lo aM L W1 σ1 rec xs P t fx cx w':=by
 obtain⟨i,vo,Sx,st,pe,V,own,hv,e1,e2,e3,e4,e5,e6,e7,e8,e9,e10⟩:=h.ex;refine⟨λk hk=>xT (h.lt k hk) hb.size,h.sub,h.old,i,vo,Sx,st,pe,V,own,hv,e1,e2,?_,e4,e5,(hs L (h.old L hL)).trans e6,e7,e8,e9,e10⟩;exact e3.keep (X:=fx) hb hs (λk hk=>h.old k (by omega)) e7 e8 e9 (λt f c hf k hk=>h.old k (hR _ _ _ _ hf.F k hk))
def Im.noM_m {V:Im}{k:Nat}{v:List (Value×Value)}(h:V.noM.m k=some v):V.m k=some v/\v≠dg:=by
 simp only[Im.noM] at h;split at h
 .cases h
 .rename_i aF;exact⟨h,λe=>aF (by rw[h,e])⟩
structure SegL (L:Nat) (V:Im) (own:Nat->Option Nat) (w:World) (V':Im) (own':Nat->Option Nat) (w':World):Prop where
 le:V.le V'
 below:Below 0 w w'
 same:∀k,k<w.heap.size->own k=none->k≠L->w'.heap[k]?=w.heap[k]?
 ow:∀k j,own' k=some j->(∃i,own k=some i)\/w.heap.size<=k
 imm:∀k,((∃o x,V'.c k o=some x)\/∃x,V'.m k=some x)->(∃o x,V.c k o=some x)\/(∃x,V.m k=some x)\/(∃i,own k=some i)\/w.heap.size<=k
def agC (w:World)(L:Nat)(o:Obj):Below 0 w (w.putObj L o):=⟨rfl,rfl,rfl,by simp,λk hk=>by omega⟩
def Seg.round {L:Nat}{V' V'':Im}{own' ago:Nat->Option Nat}{w' lM:World}{o o':Obj}(h:Seg V own w V' own' w')(k:Seg V' own' (w'.putObj L o) V'' ago lM):SegL L V own w V'' ago (lM.putObj L o'):=by
 have aJ:=h.below.size;have LR:=k.below.size;simp only[World.putObj_size] at LR;refine⟨h.le.trans k.le,h.below.trans ((agC _ _ _).trans (k.below.trans (agC _ _ _))),λq hq ho hL=>?_,λq j e=>?_,λq e=>?_⟩
 .have h1:own' q=none:=by
   cases e:own' q with
   |none=>rfl
   |some j=>
    rcases h.ow q j e with⟨i,e⟩|e
    .rw[ho] at e;cases e
    .omega
  rw[World.putObj_heap_other hL,k.same q (by simp;omega) h1,World.putObj_heap_other hL,h.same q hq ho]
 .rcases k.ow q j e with⟨i,e⟩|e
  .exact h.ow q i e
  .simp only[World.putObj_size] at e;exact .inr (by omega)
 .rcases k.imm q e with e|e|⟨i,e⟩|e
  .exact h.imm q (.inl e)
  .exact h.imm q (.inr e)
  .rcases h.ow q i e with e|e
   .exact .inr (.inr (.inl e))
   .exact .inr (.inr (.inr e))
  .simp only[World.putObj_size] at e;exact .inr (.inr (.inr (by omega)))
def Env.put_self (O:Env)(lo:List Nat):O.put [] [] lo (lo.map O.o)=O:=by
 have h2:∀u,putL O.o lo (lo.map O.o) u=O.o u:=λu=>by rw[va];split<;>rfl
 show Env.mk O.r (putL O.o lo (lo.map O.o))=O;rw[funext h2]
def awG {N:Nat}(gr:gY C Z){g:Operand}{ps:Array Tmp}{ca cb:Code}(bC:xU C Z fn s n ids R N ca)(dQ:xU C Z fn s n ids R N cb):xU C Z fn s n ids R N (.rangeFunc g ps ca cb):=by
 intro rm S r hr rd w0 σ0 wr O x a w ir hC hY jn hn hg he;simp only[comp] at hr;split at hr
 case h_2=>cases hr;exact absurd he (nX _ _ _ _)
 rename_i aa rr e lC hu;split at hr
 case h_2=>cases hr;exact absurd he (nX _ _ _ _)
 rename_i ys zf;split at hr
 case h_2=>cases hr;exact absurd he (nX _ _ _ _)
 rename_i q hq;rw[qD] at hr;split at hr
 case isFalse=>cases hr;exact absurd he (nX _ _ _ _)
 rename_i sO;cases hr;simp only[av] at sO;obtain⟨⟨⟨hl,bz⟩,ao⟩,y3⟩:=sO;have hl:=aE hl;have y3:=kC y3;obtain⟨hrd,mF⟩:=ir rfl;subst hrd;obtain⟨hs,B7,_⟩:=Gb (C:=C) (w0:=w0) (σ0:=σ0) (ids:=ids) 8 hq;simp only[aA] at hs;obtain⟨ra,RT,hs⟩:=hs;split at hs
 case h_2=>cases hs
 rename_i S1 hao hax;simp only[aD] at hs;obtain⟨rb,hrb,kj⟩:=hs;have hma:=vV ca RT;have hmb:=vV cb hrb;obtain⟨q1,q2⟩:=q;simp only at RT kj y3 B7 he ⊢;generalize yR:adT ids (q1::q2.ex.map (·.2)) q2.mo=lo at he;generalize wG:((qd cY q2.ex none).bind λM=>zZ C fn s (M.st ids))=rt at he;have FP:∃f caps d,e.ev O=.clo f caps/\Z f caps=some d/\ia (q2.pc.ev Z N) (O.setR n d) ps.toList lo rt d.l (lo.map O.o)=some x:=by
  simp only[PC.ev,PI.runs,PI.run,holds,List.all_nil,zyy] at he;cases bY:e.ev O with
  |clo f caps=>
   rw[bY] at he;simp only[PE.evs,vO] at he;cases hΦ:Z f caps with
   |none=>rw[hΦ] at he;simp at he
   |some d=>
    rw[hΦ] at he;simp only[ld,lb,PE.ev,Env.setR,aP] at he;exact⟨f,caps,d,rfl,hΦ,he⟩
  |_=>rw[bY] at he;simp at he
 obtain⟨f,caps,d,bY,hΦ,he⟩:=FP;obtain⟨V,own,hv,i⟩:=hg;have hx:=cL (gs:=[]) i hC rfl hu;rw[bY] at hx;generalize Ri:a.eval g=gv at hx;generalize br:Ty.fn aa rr=ty at hx;cases hx with
 |fn f cs vs ds gM h1 h2 aU=>
 cases br;obtain⟨hfn,apQ⟩:=gr f cs ys gM zf;obtain⟨xs,rfl,aGo,Rk⟩:=apQ caps d hΦ;simp only[D.l_list] at he;obtain⟨m,oc,hm,uN,LD,gR⟩:=aaQ he;have iq0:=adb 8 hq i
 have iq:Inv C (q1.st ids) (O.setR n (.list xs)) V own hv w0 σ0 (λ_=>False) a w:=by
  refine iq0.env (Snap.noOpt _ _) (λt ht=>?_) (λ_ _=>rfl);have ao:t<q1.rs.length:=by
   refine ZU λhle=>?_;simp only[Snap.st,aL,tP hle,Option.getD_none,cP,isNone] at ht;cases ht
  simp[Env.setR,bF _ _ (show t≠n by omega)]
 obtain⟨ρ1,hρ1⟩:∃ρ1,O.setR n (.list xs)=ρ1:=⟨_,rfl⟩
 rw[hρ1] at he iq LD gR;have kM:O.o=ρ1.o:=by rw[<-hρ1];rfl
 rw[kM] at uN;refine wpIn_rangeFunc ?_;intro QE aF7;obtain⟨L,aby⟩:∃L,w.heap.size+1=L:=⟨_,rfl⟩
 obtain⟨rec,fL⟩:∃rec:LoopState->Option Code->Loop,rec=λst pe=>{state:=st,pending:=pe,fn:=QE,tmps:=a.tmps,params:=ps,assign:=ca,body:=cb,defers:=w.heap.size}:=⟨_,rfl⟩
 have i1:=iq.enter (rec .ready none);obtain⟨t,fx0,cx0,abW,R2⟩:=iq.frame;have apC:=σ0.lt _ _ _ _ abW.F;have Re:=FrOK.enter iq abW (rec .ready none);have aGm:=iq.below.size;have BY:Free L (V.mark w.heap.size) own:=by
  refine⟨?_,λo=>?_,?_⟩
  .cases e:own L with
   |none=>rfl
   |some j=>have:=(iq.owns L j e).2.1;omega
  .cases e:V.c L o with
   |none=>exact e
   |some x=>have:=iq.lt e;omega
  .simp only[Im.mark,show L≠w.heap.size by omega,if_false];cases e:V.m L with
   |none=>rfl
   |some x=>have:=iq.ltm e;omega
 have mI:V.le (V.mark w.heap.size):=by
  refine⟨λ_ _ _ e=>e,λk x e=>?_⟩;have:k≠w.heap.size:=by have:=iq.ltm e;omega
  simp[Im.mark,this,e]
 have hL1:((w.alloc (.deferred (some []))).alloc (.loop (rec .ready none))).heap[L]?=some (.loop (rec .ready none)):=by
  have:=World.alloc_heap_new (w.alloc (.deferred (some []))) (.loop (rec .ready none));rw[World.size_alloc,aby] at this;exact this
 obtain⟨W1,QR⟩:∃W1,(w.alloc (.deferred (some []))).alloc (.loop (rec .ready none))=W1:=⟨_,rfl⟩
 have aFY:W1.heap.size=w.heap.size+2:=by rw[<-QR];simp
 rw[QR] at i1 Re hL1;have Rb:(Instr.enterLoop QE a.tmps ps ca cb none).run C.P w=.ok (L,[{target:=.collected w.heap.size,args:=#[]}]) W1:=by
  rw[<-QR,fL,<-aby];exact run_enterLoop_outer _ _ _ _ _
 obtain⟨σ1,hσ1⟩:∃σ1,V.mark w.heap.size=σ1:=⟨_,rfl⟩
 rw[hσ1] at i1 Re BY mI;obtain⟨aM,QS⟩:∃aM:Act,{a with defers:={target:=.collected w.heap.size,args:=#[]}::a.defers}=aM:=⟨_,rfl⟩
 have Fb:aM.tmps=a.tmps:=by rw[<-QS]
 rw[QS] at i1;have iR:=i1.toRnd (t:=t) (X:=λk=>k=L) R2;obtain⟨σR,hσR⟩:∃σR,σ0.rnd σ1 own W1 t (λk=>k=L)=σR:=⟨_,rfl⟩
 have wc:∀t' f c w',σR.F t' f c w'->(∀k,f k->k<W1.heap.size/\k≠L)/\∀k,c k->f k/\(∀o,σ1.c k o=none)/\σ1.m k=none:=by
  rw[<-hσR];rintro t' f c w' ⟨_,h2,h3,_⟩;exact⟨λk hk=>⟨((h2 k).1 hk).1,((h2 k).1 hk).2.2.2⟩,λk hk=>(h3 k).1 hk⟩
 have hRC:CtxOK C σR:=by rw[<-hσR];exact hC.mono i1.le
 rw[hσR] at iR
 obtain⟨P,hP⟩:∃P:Nat->List D->Snap->LoopState->Option Code->Prop,P=λi vo Sx st pe=>(i<=m/\vo=oc i/\Sx=q1/\st=.ready/\pe=none)\/
  (i=m+1/\m<xs.length/\st=.done/\∃y id O',xs[m]?=some y/\q2.pc.ev Z N (ρ1.put ps.toList (partsOf ps.toList y) lo (oc m))=some (.exit id O')/\vo=lo.map O'.o/\(id,Sx)∈q2.ex/\((id≠cY/\pe=some (.exit id))\/(id=cY/\pe=some .ret))):=⟨_,rfl⟩
 obtain⟨c1,c2⟩:=awF (C:=C) (w:=W1) (L:=L) hfn Ri;refine⟨L,[{target:=.collected w.heap.size,args:=#[]}],W1,_,W1,f,_,W1,Rb,c1,λ_ _=>trivial,c2,(λe=>by cases e),?_⟩
 refine aao ((Rk σ1 W1 (.func (.yield L) #[] #[]) vs (RSt C w0 σR ids ρ1 lo aM L W1 σ1 rec xs P) (λk=>k<W1.heap.size) (λk=>(∃j,own k=some j)\/k=L) m i1.ok (hC.mono i1.le) ⟨h1,h2,λj t e=>(aU j t e).mono mI⟩ hm
  (λt f c w h=>h.lt) (λt f c w h=>h.sub) (λt f c w w' h hb hs=>h.keep (by omega) (by omega) (λt f c w hF k hk=>((wc t f c w hF).1 k hk).1) hb hs) ?_ ?_ ?_ ?_).mono ?_)
 .refine⟨λk hk=>hk,λk hk=>?_,λk hk=>hk,0,oc 0,q1,.ready,none,σ1,own,hv,by simp,by rw[hP];exact .inl ⟨om _,rfl,rfl,rfl,rfl⟩,?_,.refl σ1,BY,hL1,λk j e=>(iR.owns k j e).2.1,λk o x e=>iR.lt e,λk x e=>iR.ltm e,λk=>.rfl⟩
  .rcases hk with⟨j,e⟩|e
   .exact(iR.owns k j e).2.1
   .show k<W1.heap.size;omega
  .rw[uN,Env.put_self];exact iR
 .rintro k o x e (⟨j,hj⟩|rfl)
  .have:=(iR.owns k j hj).2.2.1 o;rw[e] at this;cases this
  .rw[BY.c] at e;cases e
 .rintro k x e (⟨j,hj⟩|rfl)
  .have:=(iR.owns k j hj).2.2.2;rw[e] at this;cases this
  .rw[BY.m] at e;cases e
 .intro i fx cx w1 σx args ds' hi dX hF hσx jG jH pR dh cS rd' o a' x' aa ts K Q bV cK abF hK;have aF9:i<xs.length:=(fo.1 dX).1;obtain⟨i',vo,Sx,st,pe,σa,zz,hva,e1,e2,iA,Lv,E9,KV,RB,hcA,FD,B5⟩:=hF.ex;have hii:i'=i:=by
   have h9:=congrArg List.length (congrArg D.l e1);simp only[D.l_list,ed] at h9;omega
  subst hii;rw[hP] at e2;rcases e2 with⟨_,rfl,Fa,rfl,rfl⟩|⟨e2,_⟩
  case inr=>omega
  rw[Fa] at iA;have abz:L<w1.heap.size:=hF.lt L (hF.old L (by omega));have Ld:cx L:=(B5 L).2 (.inr rfl)
  have aqi:∀k o v,σx.c k o=some v->zz k=none:=λk o v e=>by
   cases e2:zz k with
   |none=>rfl
   |some j=>exact absurd ((B5 k).2 (.inl ⟨j,e2⟩)) (jH k o v e)
  have FH:∀k v,σx.m k=some v->zz k=none:=λk v e=>by
   cases e2:zz k with
   |none=>rfl
   |some j=>exact absurd ((B5 k).2 (.inl ⟨j,e2⟩)) (pR k v e)
  have hτok:σx.noM.ok w1:=⟨hσx.c,λk v e=>hσx.m k v (Im.noM_m e).1⟩
  have iB:=iA.joinIm (τ:=σx.noM) hτok (λk e=>(Im.noM_m e).2 rfl) aqi (λk v e=>FH k v (Im.noM_m e).1)
   (λk o v e=>(dh k o v e).imp (λe=>Lv.c k o v e) λe=>by omega) (λk v e=>(cS k v (Im.noM_m e).1).imp (λe=>Lv.m k v e) λe=>by omega)
   (λt' f c hf=>⟨λk o v e hc=>by
        obtain⟨g1,g2,g3⟩:=(wc _ _ _ _ hf.F).2 k hc;rcases dh k o v e with e|e
        .rw[g2 o] at e;cases e
        .have:=((wc _ _ _ _ hf.F).1 k g1).1;omega,λk v e hc=>by
        obtain⟨g1,g2,g3⟩:=(wc _ _ _ _ hf.F).2 k hc;rcases cS k v (Im.noM_m e).1 with e|e
        .rw[g3] at e;cases e
        .have:=((wc _ _ _ _ hf.F).1 k g1).1;omega⟩)
  have hFB:Free L (σa.plus σx.noM) zz:=by
   refine⟨E9.own,λo=>?_,?_⟩
   .cases e:(σa.plus σx.noM).c L o with
    |none=>rfl
    |some v=>
     rcases Im.plus_c e with e|e
     .rw[E9.c] at e;cases e
     .exact absurd Ld (jH L o v e)
   .cases e:(σa.plus σx.noM).m L with
    |none=>rfl
    |some v=>
     rcases Im.plus_m e with e|e
     .rw[E9.m] at e;cases e
     .exact absurd Ld (pR L v (Im.noM_m e).1)
  have uK:ps.toList.length=ys.length:=by rw[DP];exact hl.symm
  have ao3:qC C (σa.plus σx.noM) ys args ds':=⟨jG.1,jG.2.1,λj t e=>((jG.2.2 j t e).noM).mono (Im.plus_le2 iA.ok hτok)⟩
  have iC:=iB.startR (O':=ρ1) uK bz (λp hp=>by
   have:=bT.1 ao p hp;rw[Fb,hn];simpa [jC] using this) ao3 rfl
  have RO:∃xi,q2.pc.ev Z N (ρ1.put ps.toList (partsOf ps.toList (.tup ds')) lo (oc i'))=some xi/\((i'<m/\∃O',xi=.next O'/\lo.map O'.o=oc (i'+1))\/(i'=m/\m<xs.length/\∃id O',xi=.exit id O')):=by
   by_cases l0:i'<m
   .obtain⟨y,O',g1,g2,g3⟩:=LD i' l0;rw[dX] at g1;cases g1;exact⟨_,g2,.inl ⟨l0,O',rfl,g3⟩⟩
   .obtain rfl:i'=m:=by omega
    rcases gR with⟨g1,_⟩|⟨g1,y,id,O',g2,g3,_⟩
    .omega
    .rw[dX] at g2;cases g2;exact⟨_,g3,.inr ⟨rfl,g1,id,O',rfl⟩⟩
  obtain⟨xi,uQ,Sk⟩:=RO;have ae:q2.pc=.seq ra.pc rb.pc:=by rw[<-kj];rfl
  rw[ae] at uQ;have aJ:(nU ps.toList args aM.tmps).size=n:=by rw[aix,Fb,hn]
  refine⟨λ_ _=>trivial,?_⟩;rw[Oper.semAt_eq _ _ _ (λc e=>by rw[bV] at e;cases e)];have ao4:aa.size=ps.size:=by
   have:=jG.1;rw[<-abF,fp,DP] at this;omega
  have ar:=aBq (C:=C) bV cK KV (by rw[fL];exact ao4);have aqI:(rec .ready none).fn=QE/\(rec .ready none).tmps=a.tmps/\(rec .ready none).params=ps/\(rec .ready none).assign=ca/\(rec .ready none).body=cb:=by rw[fL];exact⟨rfl,rfl,rfl,rfl,rfl⟩
  obtain⟨r1,r2,r3,r4,r5⟩:=aqI;rw[r1,r2,r3,r4,r5] at ar
  have uL:(ps.zip (aa.map a'.eval)).foldl (λtmps (t,v)=>tmps.setIfInBounds t v) a.tmps=nU ps.toList args aM.tmps:=by
   rw[Fb,<-abF,<-xJ];exact axu ps (aa.map a'.eval) a.tmps
  rw[uL] at ar;rw[ar];refine⟨(λe=>by cases e),?_⟩;refine roundIn_of_wpIn (F:=FR rd') trivial ?_;show ca.wpIn (FR (some L)) 0 C.P _ _ _;cases l7:ra.pc.ev Z N (ρ1.put ps.toList (partsOf ps.toList (.tup ds')) lo (oc i')) with
  |none=>simp only[PC.ev,l7] at uQ;cases uQ
  |some xa=>
  refine wpIn_mono (air bC RT lC hRC iC (wr:=λt=>t∈cN ca) (λ_ h=>h) aJ l7 L) λe2 a1 Zr aqS=>?_;obtain⟨O2,S2,σ2,jS,jk,iD,ly,jj,ls⟩:=aqS;cases e2 with
  |normal=>
   obtain⟨rfl,we⟩:=ls;rw[hao] at we;cases we;simp only[PC.ev,l7] at uQ;have hL2:Zr.heap[L]?=some (.loop (rec .ready none)):=(ly.same L abz hFB.own).trans KV;have QP:=hFB.seg abz ly;have QQ:L<Zr.heap.size:=(gX.1 hL2).1;have hL0:w0.heap.size<=L:=by omega
   refine⟨_,run_beginRound hL2 (by rw[fL]),?_⟩;have iE:=iD.putL hL0 QP (λt' f c hf Fs=>((wc _ _ _ _ hf.F).1 L Fs).2 rfl) (.loop {rec .ready none with state:=.busy});have hL3:(Zr.putObj L (.loop {rec .ready none with state:=.busy})).heap[L]?=some (.loop {rec .ready none with state:=.busy}):=World.putObj_heap_same QQ;show cb.wpIn (FR (some L)) 0 C.P _ _ _;refine wpIn_mono (air dQ hrb lC hRC iE (wr:=λt=>t∈cN cb) (λ_ h=>h) (jj.size.trans aJ) uQ L) λe3 a3 w3 aqT=>?_;obtain⟨ρ3,S3,σ3,zy,F2,iF,p7,aqR,pX⟩:=aqT;have hL4:w3.heap[L]?=some (.loop {rec .ready none with state:=.busy}):=(p7.same L (by simpa using QQ) QP.own).trans hL3;have hF3:=QP.seg (by simpa using QQ) p7;have aoO:L<w3.heap.size:=(gX.1 hL4).1;obtain⟨mk,Lz⟩:∃mk,Nat.lor (zp (ps.toList++cN ca++cN cb)) (Nat.lor ra.mr rb.mr)=mk:=⟨_,rfl⟩
   have aqb:∀t,aB mk t=false->t∉ps.toList/\t∉cN ca/\t∉cN cb/\aB ra.mr t=false/\aB rb.mr t=false:=by
        intro t ht;rw[<-Lz,fS,fS,ZD,ZD] at ht;obtain⟨t1,t2,t3⟩:=ht;have:t∉ps.toList++cN ca++cN cb:=λhm=>by rw[aaf hm] at t1;cases t1
        simp only[dR,not_or] at this;exact⟨this.1.1,this.1.2,this.2,t2,t3⟩
   have RU:∀t,aB mk t=false->aM.tmps.getD t undef=a3.tmps.getD t undef/\(ρ1.put [] [] lo (lo.map ρ3.o)).r t=ρ3.r t:=by
        intro t ht;obtain⟨t1,t2,t3,t4,t5⟩:=aqb t ht;refine⟨?_,?_⟩
        .rw[aqR.get t t3,jj.get t t2];exact(NQ _ _ _ _ t1).symm
        .have QW:∀O',xi=.next O'\/(∃id,xi=.exit id O')->O'.r t=O2.r t:=λO' h=>by
          have yH:xi.env?=some O':=by rcases h with h|⟨id,h⟩<;>rw[h]<;>rfl
          exact(PC.ev_but rb.pc _ _ O' uQ yH).r t λhm=>by rw[hmb.1 t hm] at t5;cases t5
         have cW:O2.r t=putL ρ1.r ps.toList (partsOf ps.toList (.tup ds')) t:=(PC.ev_but ra.pc _ _ O2 l7 rfl).r t λhm=>by rw[hma.1 t hm] at t4;cases t4
         rw[CW _ _ _ _ t1] at cW;show ρ1.r t=ρ3.r t;rw[QW ρ3 (by
          cases e3 with
          |normal=>exact .inl pX.1
          |exit id=>exact .inr ⟨id,pX.1⟩
          |ret=>exact .inr ⟨_,pX.1⟩
          |_=>exact pX.elim),cW]
   have Rs:q2.mo=ku ra.mo rb.mo:=by rw[<-kj];rfl
   have RE:∀j,j∉q2.mo->ρ3.o j=ρ1.o j:=by
        intro j hj;rw[Rs,rz,not_or] at hj;have yH:xi.env?=some ρ3:=by
         cases e3 with
         |normal=>rw[pX.1];rfl
         |exit id=>rw[pX.1];rfl
         |ret=>rw[pX.1];rfl
         |_=>exact pX.elim
        rw[(PC.ev_but rb.pc _ _ ρ3 uQ yH).o j λhm=>hj.2 (hmb.2 j hm),(PC.ev_but ra.pc _ _ O2 l7 rfl).o j λhm=>hj.1 (hma.2 j hm)]
        exact CW _ _ _ _ λhm=>by
         rw[<-yR] at hm;have:=(eg.1 hm).1;rw[Rs,rz] at this;exact this.elim hj.1 hj.2
   have RD:∀(S:Snap),S∈(q1::q2.ex.map (·.2))->∀j,p9 ((S.st ids).o j)=false->(ρ1.put [] [] lo (lo.map ρ3.o)).o j=ρ3.o j:=by
        intro S hS j hj;show putL ρ1.o lo (lo.map ρ3.o) j=ρ3.o j;rw[va];split
        .rfl
        .rename_i gO;refine(RE j λwx=>gO ?_).symm;rw[<-yR];exact eg.2 ⟨wx,jA.2 ⟨S,hS,by simpa [Snap.st] using hj⟩⟩
   have fin:∀(jump:Option Code) (Sx:Snap),Inv C (Sx.st ids) (ρ1.put [] [] lo (lo.map ρ3.o)) σ3 zy F2 w0 σR (λ_=>False) aM w3->P (i'+1) (lo.map ρ3.o) Sx (if jump.isNone then .ready else .done) jump->jump.isNone=decide (i'<m)->
        ∃v w',(Instr.endRound L jump).run C.P w3=.ok v w'/\K (a'.put o.dst v) w':=by
        intro jump Sx iG hPn wx;refine⟨_,_,run_endRound jump hL4,?_⟩;have aqH:({{rec .ready none with state:=.busy} with state:=if jump.isNone then .ready else .done,pending:=jump}:Loop)=rec (if jump.isNone then .ready else .done) jump:=by rw[fL]
        rw[aqH];have aU:=ly.round (L:=L) (o':=.loop (rec (if jump.isNone then .ready else .done) jump)) p7;have iH:=iG.putL hL0 hF3 (λt' f c hf Fs=>((wc _ _ _ _ hf.F).1 L Fs).2 rfl) (.loop (rec (if jump.isNone then .ready else .done) jump));obtain⟨w4,Sd⟩:∃w4,w3.putObj L (.loop (rec (if jump.isNone then .ready else .done) jump))=w4:=⟨_,rfl⟩
        have hL5:w4.heap[L]?=some (.loop (rec (if jump.isNone then .ready else .done) jump)):=by rw[<-Sd];exact World.putObj_heap_same aoO
        have aGr:w4.heap.size=w3.heap.size:=by rw[<-Sd];simp
        rw[Sd] at aU iH ⊢;have aFX:W1.heap.size<=w1.heap.size:=by
         have:=hF.lt (W1.heap.size-1) (hF.old _ (by omega));omega
        have aGn:=aU.below.size
        refine hK _ _ ⟨by rw[wx],aU.below,λk hk hc=>aU.same k hk (by
         cases e:zz k with
         |none=>rfl
         |some j=>exact absurd ((B5 k).2 (.inl ⟨j,e⟩)) hc) (λe=>hc (by rw[e];exact Ld)),(λk=>k<w4.heap.size/\(k<W1.heap.size\/(∃j,zy k=some j)\/(∃o x,σ3.c k o=some x)\/∃x,σ3.m k=some x)),(λk=>(∃j,zy k=some j)\/k=L),?_,?_,?_⟩
        .refine⟨λk hk=>hk.1,λk hk=>?_,λk hk=>⟨by omega,.inl hk⟩,i'+1,lo.map ρ3.o,Sx,_,jump,σ3,zy,F2,rfl,hPn,iH,Lv.trans ((Im.plus_le1 _ _).trans aU.le),hF3,hL5,λk j e=>⟨(iH.owns k j e).2.1,.inr (.inl ⟨j,e⟩)⟩,λk o x e=>⟨iH.lt e,.inr (.inr (.inl ⟨o,x,e⟩))⟩,λk x e=>⟨iH.ltm e,.inr (.inr (.inr ⟨x,e⟩))⟩,λk=>.rfl⟩;rcases hk with⟨j,e⟩|e
         .exact⟨(iH.owns k j e).2.1,.inr (.inl ⟨j,e⟩)⟩
         .exact⟨by omega,.inl (by omega)⟩
        .rintro k ⟨_,hk⟩ bq
         have Fx:((∃o x,σ3.c k o=some x)\/∃x,σ3.m k=some x)->fx k\/(∃o x,σx.c k o=some x)\/(∃x,σx.m k=some x/\x≠dg):=λh=>by
          rcases aU.imm k h with⟨o,x,e⟩|⟨x,e⟩|⟨j,e⟩|e
          .rcases Im.plus_c e with e|e
           .exact .inl (hcA k o x e)
           .exact .inr (.inl ⟨o,x,e⟩)
          .rcases Im.plus_m e with e|e
           .exact .inl (FD k x e)
           .exact .inr (.inr ⟨x,(Im.noM_m e).1,(Im.noM_m e).2⟩)
          .exact .inl (RB k j e)
          .omega
         rcases hk with hk|⟨j,e⟩|e|e
         .exact .inl (hF.old k hk)
         .rcases aU.ow k j e with⟨j',e⟩|e
          .exact .inl (RB k j' e)
          .omega
         .exact Fx (.inl e)
         .exact Fx (.inr e)
        .rintro k (⟨j,e⟩|e) bq
         .rcases aU.ow k j e with⟨j',e⟩|e
          .exact(B5 k).2 (.inl ⟨j',e⟩)
          .omega
         .rw[e];exact Ld
   have pS:lN σ3 w0.heap.size aM.defers:=iA.defers.mono ((Im.plus_le1 _ _).trans (ly.le.trans p7.le));have RP:q2.out=rb.out.map (Snap.mask mk)/\q2.ex=rb.ex.map (λx=>(x.1,x.2.mask mk)):=by rw[<-kj,<-Lz];exact⟨rfl,rfl⟩
   cases e3 with
   |normal=>
    obtain⟨e4,e5⟩:=pX;have hT:q2.out=some (S3.mask mk):=by rw[RP.1,e5];rfl
    have abX:=B7 _ hT
    have iG:Inv C (q1.st ids) ρ3 σ3 zy F2 w0 σR (λ_=>False) a3 w3:=by
        have:=Snap.meet_ok2 (x:=q1) (iF.maskR mk)
        rwa [abX] at this
    have iH:=iG.restore (O':=ρ1.put [] [] lo (lo.map ρ3.o)) (a':=aM) (Snap.noOpt _ _) pS (λt ht=>RU t (by
        cases e:aB mk t with
        |false=>rfl
        |true=>
         have h9:=atW (x:=q1) (S:=S3) (ids:=ids) e;rw[abX] at h9;rw[h9] at ht;cases ht)) (λj hj=>RD q1 (dS ..) j hj)
    rcases Sk with⟨l0,O',e6,e7⟩|⟨_,_,id,O',e6⟩
    .rw[e4] at e6;cases e6;exact fin none q1 iH (by rw[hP];exact .inl ⟨by omega,e7,rfl,rfl,rfl⟩) (by simp[l0])
    .rw[e4] at e6;cases e6
   |exit id=>
    obtain⟨e4,e5,e6⟩:=pX;have cO:(id,S3.mask mk)∈q2.ex:=by rw[RP.2];exact fq.2 ⟨_,e6,rfl⟩
    have iH:=(iF.maskR mk).restore (O':=ρ1.put [] [] lo (lo.map ρ3.o)) (a':=aM) (Snap.noOpt _ _) pS (λt ht=>RU t (by
        cases e:aB mk t with
        |false=>rfl
        |true=>rw[Gk,if_pos e] at ht;cases ht)) (λj hj=>RD (S3.mask mk) (dK _ (fq.2 ⟨_,cO,rfl⟩)) j hj)
    rcases Sk with⟨l0,O',e7,_⟩|⟨l0,oF,cg,O',e7⟩
    .rw[e4] at e7;cases e7
    .subst l0;refine fin (some (.exit id)) (S3.mask mk) iH ?_ (by simp);rw[hP];refine .inr ⟨rfl,oF,rfl,_,id,ρ3,dX,?_,rfl,cO,.inl ⟨e5,rfl⟩⟩;rw[ae];simp only[PC.ev,l7];rw[uQ,e4]
   |ret=>
    obtain⟨e4,e6⟩:=pX;have cO:(cY,S3.mask mk)∈q2.ex:=by rw[RP.2];exact fq.2 ⟨_,e6,rfl⟩
    have iH:=(iF.maskR mk).restore (O':=ρ1.put [] [] lo (lo.map ρ3.o)) (a':=aM) (Snap.noOpt _ _) pS (λt ht=>RU t (by
        cases e:aB mk t with
        |false=>rfl
        |true=>rw[Gk,if_pos e] at ht;cases ht)) (λj hj=>RD (S3.mask mk) (dK _ (fq.2 ⟨_,cO,rfl⟩)) j hj)
    rcases Sk with⟨l0,O',e7,_⟩|⟨l0,oF,cg,O',e7⟩
    .rw[e4] at e7;cases e7
    .subst l0;refine fin (some .ret) (S3.mask mk) iH ?_ (by simp);rw[hP];refine .inr ⟨rfl,oF,rfl,_,cY,ρ3,dX,?_,rfl,cO,.inr ⟨rfl,rfl⟩⟩;rw[ae];simp only[PC.ev,l7];rw[uQ,e4]
   |_=>exact pX.elim
  |exit id=>obtain⟨_,_,e6⟩:=ls;rw[hax] at e6;cases e6
  |ret=>obtain⟨_,e6⟩:=ls;rw[hax] at e6;cases e6
  |_=>exact ls.elim
 .rintro e' w' ⟨⟨v,rfl⟩,fx,cx,hF⟩;rw[show({tmps:=a.tmps,defers:=[{target:=Target.collected w.heap.size,args:=#[]}]++a.defers}:Act)=aM from QS];obtain⟨i',vo,Sx,st,pe,σa,zz,hva,e1,e2,iA,Lv,E9,KV,RB,hcA,FD,B5⟩:=hF.ex;have h9:=congrArg List.length (congrArg D.l e1);simp only[D.l_list,ed] at h9;have cA:(rec st pe).state≠.busy:=by
   rw[hP] at e2;rw[fL];rcases e2 with⟨_,_,_,e3,_⟩|⟨_,_,e3,_⟩<;>(rw[e3];intro e;cases e)
  have wC:(rec st pe).pending=pe:=by rw[fL]
  have Rc:(Instr.endLoop L).run C.P w'=.ok pe (w'.putObj L (.loop {rec st pe with state:=.exhausted})):=(run_endLoop (P:=C.P) KV cA).trans (congrArg (λz=>Result.ok z _) wC);have iF:=iA.putL (by omega:w0.heap.size<=L) E9 (λt' f c hf Fs=>((wc _ _ _ _ hf.F).1 L Fs).2 rfl) (.loop {rec st pe with state:=.exhausted});rw[<-hσR] at iF;have iG:=i1.ofRnd Re (λk hk e=>by have:=apC k hk;omega) iF;have lx:SameBut wr a aM:=⟨by rw[Fb],λt _=>by rw[Fb]⟩
  refine⟨pe,_,Rc,?_⟩;rw[hP] at e2;rcases e2 with⟨e3,rfl,Fa,_,rfl⟩|⟨rfl,oF,_,y,id,O',g1,g2,rfl,g4,g5⟩
  .rcases gR with⟨g1,g2⟩|⟨g1,_⟩
   .obtain rfl:i'=m:=by omega
    rw[Fa] at iG;exact⟨_,q1,g2,rfl,lx,_,_,_,iG⟩
   .omega
  .rcases gR with⟨g6,_⟩|⟨_,y',cg,O'',k1,k2,k3⟩
   .omega
   .rw[g1] at k1;cases k1;rw[g2] at k2;cases k2;rcases k3 with⟨k3,k4⟩|⟨k3,pe',k4,k5⟩
    .rcases g5 with⟨_,rfl⟩|⟨g5,_⟩
     .exact wpIn_exit ⟨_,Sx,k4,k3,eg.2 ⟨g4,by simp[eY k3]⟩,lx,_,_,_,iG⟩
     .exact absurd g5 k3
    .rcases g5 with⟨g5,_⟩|⟨_,rfl⟩
     .exact absurd k3 g5
     .subst k3;rw[<-wG,aA] at k4;obtain⟨M,hM,FU⟩:=k4;obtain⟨M',hM',uC⟩:=SP (⟨_,_,_,iG⟩:Good C w0 σ0 (Sx.st ids) _ (λ_=>False) aM _) q2.ex none g4;rw[hM] at hM';cases hM';obtain⟨σm,aHi,hvm,im⟩:=uC;exact wpIn_ret ⟨_,k5,Inv.retD hC (λ_=>rfl) mF FU _ im rfl,lx⟩
def adY {arr:Array MapEntry}{clock:Nat}(hb:og arr clock){idx:List Nat}(hi:∀i,i∈idx->i<arr.size){i:Nat}{e:MapEntry}(he:arr[i]?=some e):(gW arr idx).contains e.born=true↔i∈idx:=by
 simp only[gW,List.contains_toArray,List.contains_iff_mem,fq];constructor
 .rintro⟨j,hj,h⟩;have ao:=hi j hj;rw[gl ao] at h;simp only at h;have:=hb.2 j i arr[j] e (gl ao) he h;rw[<-this];exact hj
 .intro h;exact⟨i,h,by rw[he]⟩
def axp (arr:Array MapEntry)(idx:List Nat){i:Nat}{e:MapEntry}(he:arr[i]?=some e):(gW arr idx).push e.born=gW arr (idx++[i]):=by
 simp[gW,he]
def aue {P:Program}{w:World}{k m:Nat}{arr:Array MapEntry}{clock:Nat}{idx:List Nat}(hk:w.heap[k]?=some (.mapIter (some m) clock (gW arr idx) clock))(hm:w.heap[m]?=some (.map arr clock))(hb:og arr clock)(hi:∀i,i∈idx->i<arr.size)(T:TypeId):
 ∃w1:World,(w1=w\/w1=w.drew)/\(((∀i,i<arr.size->i∈idx)/\(Instr.next (.pointer (some ⟨k,0,none⟩)) false T).run P w=.ok (.tuple #[.bool false]) w1)\/
  ∃i e,arr[i]?=some e/\i∉idx/\(Instr.next (.pointer (some ⟨k,0,none⟩)) false T).run P w=.ok (.tuple #[.bool true,e.key,e.val]) {w1 with heap:=w1.heap.setIfInBounds k (.mapIter (some m) clock (gW arr (idx++[i])) clock)}):=by
 have cO:∀{e:MapEntry},e∈arr->∃i:Nat,arr[i]?=some e:=λhe=>by
  obtain⟨i,hi,rfl⟩:=Array.mem_iff_getElem.1 he;exact⟨i,gl hi⟩
 have hold:∀(l:Array MapEntry),(∀e,e∈l->e.born<clock)->l.filter (λx=>decide (x.born<clock))=l:=λl h=>by
  rw[Array.filter_eq_self];intro e he;simpa using h e he
 have mL:∀(l:Array MapEntry),(∀e,e∈l->e.born<clock)->l.filter (λx=>decide (x.born>=clock))=#[]:=λl h=>by
  rw[Array.filter_eq_empty_iff];intro e he;have:=h e he;simp;omega
 have hbc:∀e,e∈arr->e.born<clock:=λe he=>by obtain⟨i,hi⟩:=cO he;exact hb.1 i e hi
 have uA:(!(gW arr idx).isEmpty&& !arr.isEmpty&&arr.all (λx=>decide (x.born>=clock)))=false:=by
  cases ha:arr.isEmpty
  .have aF:arr.size≠0:=by simpa using ha
   have:arr.all (λx=>decide (x.born>=clock))=false:=by
        rw[DQ];intro h;rw[Array.all_eq_true] at h;have h0:=h 0 (by omega);have h1:=hbc arr[0] (ZA _);simp at h0;omega
   rw[this,xK]
  .simp
 let left:=arr.filter λe=> !(gW arr idx).contains e.born
 have hl:∀e,e∈left->e.born<clock:=λe he=>hbc e (ZB.1 he).1;by_cases hz:left.size=0
 .refine⟨w,.inl rfl,.inl ⟨λi ao=>?_,?_⟩⟩
  .by_cases bE:i∈idx
   .exact bE
   .exfalso;have Lx:arr[i]∈left:=ZB.2 ⟨ZA _,by
     have:=adY hb hi (gl ao);cases hc:(gW arr idx).contains arr[i].born with
     |false=>rfl
     |true=>exact absurd (this.1 hc) bE⟩
    have:left=#[]:=Oq hz;rw[this] at Lx;simp at Lx
  .have he:left=#[]:=Oq hz;have rf:arr.filter (λe=> !(gW arr idx).contains e.born)=#[]:=he;simp only[Instr.next,getObj,Sem.run_bind,Sem.run,hk,hm,Result.andThen_ok,uA,rf];simp[Question.forced,Sem.run]
 .have iT:left.filter (λx=>decide (x.born<clock))=left:=hold left hl;have jJ:left.filter (λx=>decide (x.born>=clock))=#[]:=mL left hl;have hem:left.isEmpty=false:=by simpa using hz
  have key:∀c,c<left.size->∃i e,arr[i]?=some e/\i∉idx/\left[c]?=some e:=λc hc=>by
   have Lx:left[c]∈left:=ZA _;obtain⟨h1,h2⟩:=ZB.1 Lx;obtain⟨i,dx⟩:=cO h1;refine⟨i,left[c],dx,λbE=>?_,gl hc⟩;rw[(adY hb hi dx).2 bE] at h2;cases h2
  obtain⟨w1,c,dP,hc,lX⟩:∃w1 c,(w1=w\/w1=w.drew)/\c<left.size/\(choose (.mapNext left.size)).run P w=.ok c w1:=by
   by_cases h1:left.size<=1
   .exact⟨w,0,.inl rfl,by omega,by simp[Question.forced,h1]⟩
   .exact⟨w.drew,_,.inr rfl,Nat.mod_lt _ (by omega),by simp[Question.forced,h1,Question.cut];rfl⟩
  obtain⟨i,e,h1,h2,h3⟩:=key c hc;refine⟨w1,dP,.inr ⟨i,e,h1,h2,?_⟩⟩;have uI:arr.filter (λe=> !(gW arr idx).contains e.born)=left:=rfl;have Fv:(getObj k).run P w=.ok (.mapIter (some m) clock (gW arr idx) clock) w:=by simp[getObj,Sem.run,hk]
  have jM:(getObj m).run P w=.ok (.map arr clock) w:=by simp[getObj,Sem.run,hm]
  have bq:w1.heap[k]?=some (.mapIter (some m) clock (gW arr idx) clock):=by rcases dP with rfl|rfl<;>exact hk
  have hg3:(setObj k (.mapIter (some m) clock ((gW arr idx).push e.born) clock)).run P w1=.ok () {w1 with heap:=w1.heap.setIfInBounds k (.mapIter (some m) clock ((gW arr idx).push e.born) clock)}:=by simp[setObj,Sem.run,bq]
  have ao9:((if false=true then #[none] else #[])++Array.map some (left++#[]):Array (Option MapEntry))=left.map some:=by simp
  have jH:(left.map some)[c]?=some (some e):=by simp[h3]
  have ab0:∀(Em:Array (Option MapEntry)) (cc:Nat),(choose (.mapNext Em.size)).run P w=.ok cc w1->Em[cc]?=some (some e)->(do
        match Em[<-choose (.mapNext Em.size)]? with
        |some (some e)=>
         setObj k (.mapIter (some m) clock ((gW arr idx).push e.born) clock)
         pure (.tuple #[.bool true,e.key,e.val])
        |some none=>(pure (.tuple #[.bool false]):Sem Value)
        |none=>stuck "Next: no such candidate" :Sem Value).run P w=.ok (.tuple #[.bool true,e.key,e.val]) {w1 with heap:=w1.heap.setIfInBounds k (.mapIter (some m) clock ((gW arr idx).push e.born) clock)}:=by
   intro Em cc h4 h5;rw[Sem.run_bind,h4];simp only[Result.andThen_ok,h5];rw[Sem.run_bind,hg3];rfl
  rw[axp arr idx h1] at ab0 hg3;have:=ab0 (left.map some) c (by rw[Array.size_map];exact lX) jH;simp only[Instr.next];rw[Sem.run_bind,Fv];simp only[Result.andThen_ok];rw[Sem.run_bind,jM];simp only[Result.andThen_ok,uA,uI,iT,jJ,hem];rw[ao9,if_neg (by decide)];exact this
def amA {P:Program}{w:World}{k m:Nat}{arr:Array MapEntry}{clock:Nat}{idx:List Nat}{i:Nat}{e:MapEntry}(hk:w.heap[k]?=some (.mapIter (some m) clock (gW arr (idx++[i])) clock))(hm:w.heap[m]?=some (.map arr clock))(hb:og arr clock)(he:arr[i]?=some e):
 (Instr.entry (.pointer (some ⟨k,0,none⟩))).run P w=.ok (.tuple #[e.key,e.val]) w:=by
 have ao6:(gW arr (idx++[i])).back?=some e.born:=by simp[gW,he]
 have Ft:arr.find? (λx=>x.born==e.born)=some e:=by
  have ao:i<arr.size:=(gX.1 he).1;have hei:arr[i]=e:=(gX.1 he).2;rw[Array.find?_eq_some_iff_getElem];refine⟨by simp,i,ao,hei,λj hj=>?_⟩;have gO:j<arr.size:=by omega
  cases hc:(arr[j].born==e.born) with
  |false=>rfl
  |true=>
   have:=hb.2 j i arr[j] e (gl gO) he (by simpa using hc);omega
 simp[Instr.entry,getObj,Sem.run_bind,Sem.run,hk,hm,ao6,Ft]
def atO {x y z:Code}{k:Nat}{p:MP}(h:Ct x y k z=some p):∃i1 i2 o1 o2 o3 l,x=.region i1 p.ops1 false/\y=.cond (.tmp p.mo) .skip (.exit p.out)/\z=.region i2 p.ops2 false/\p.next=k/\p.ops1.toList=[o1,o2]/\p.ops2.toList=o3::l/\
 o1.dst=some p.nx/\o1.guard=none/\o1.op=.next (.tmp p.it) false/\o2.dst=some p.mo/\o2.guard=none/\o2.op=.extract (.tmp p.nx) 0/\o3.dst=some p.pr/\o3.guard=none/\o3.op=.entry (.tmp p.it)/\me p.pr l []=some p.aa/\
 p.it≠p.nx/\p.it≠p.mo/\p.it≠p.pr/\p.nx≠p.mo/\p.out≠cY/\k≠cY:=by
 unfold Ct at h;split at h
 case h_2=>cases h
 rename_i i1 ops1 mo out i2 ops2;split at h
 case h_2=>cases h
 rename_i o1 o2 o3 l e1 e2;split at h
 case h_2=>cases h
 rename_i nx it mo' nx' pr it' d1 g1 q1 d2 g2 q2 d3 g3 q3;rw[qD] at h;split at h
 case isFalse=>cases h
 rename_i hc;simp only[aD] at h;obtain⟨aa,h4,rfl⟩:=h;simp only[av,jb] at hc;obtain⟨⟨⟨⟨⟨⟨⟨⟨c1,c2⟩,c3⟩,c4⟩,c5⟩,c6⟩,c7⟩,c8⟩,c9⟩:=hc;have ne:∀{a b:Nat},Nat.beq a b=false->a≠b:=λh e=>by subst e;simp at h
 obtain rfl:=aE c1;obtain rfl:=aE c2;obtain rfl:=aE c3;exact⟨i1,i2,o1,o2,o3,l,rfl,rfl,rfl,rfl,e1,e2,d1,g1,q1,d2,g2,q2,d3,g3,q3,h4,ne c4,ne c5,ne c6,ne c7,ne c8,ne c9⟩
def My {pr:Nat}:∀(l:List Oper) {acc aa:List (Nat×Nat)},me pr l acc=some aa->∀x,x∈acc->x∈aa
 |[],acc,aa,h,x,hx=>by simp only[me,aZ] at h;subst h;exact hx
 |o::l,acc,aa,h,x,hx=>by
  simp only[me] at h;split at h
  case h_2=>cases h
  rw[qD] at h;split at h
  .cases h
  split at h
  .rw[qD] at h;split at h
   .exact My l h x (kB _ hx)
   .cases h
  .simp only[aA] at h;obtain⟨i,_,h⟩:=h;exact My l h x (kB _ hx)
  .simp only[aA] at h;obtain⟨i,_,h⟩:=h;exact My l h x (kB _ hx)
  .cases h
def Gj:∀{l:List (Nat×Nat)} {t i:Nat},wU l t=some i->(t,i)∈l
 |x::l,t,i,h=>by
  simp only[wU] at h;cases hb:Nat.beq x.1 t<;>simp only[hb,zyy,zyx] at h
  .exact dK _ (Gj h)
  .cases h;have:=aE hb;subst this;exact dS ..
def adI:∀{l:List (Nat×Nat)} {t:Nat},(wU l t).isSome=false->∀x,x∈l->x.1≠t
 |y::l,t,h,x,hx=>by
  simp only[wU] at h;cases hb:Nat.beq y.1 t<;>simp only[hb,zyy,zyx] at h
  .rcases cQ.1 hx with e|hx
   .subst e;intro e;subst e;simp at hb
   .exact adI h x hx
  .cases h
def T3 {pr:Nat}:∀(l:List Oper) {acc aa:List (Nat×Nat)},me pr l acc=some aa->(∀x,x∈acc->x.2<=1)->∀x,x∈aa->x∈acc\/(x.2<=1/\∃o,o∈l/\o.dst=some x.1)
 |[],acc,aa,h,_,x,hx=>by simp only[me,aZ] at h;subst h;exact .inl hx
 |o::l,acc,aa,h,ha,x,hx=>by
  simp only[me] at h;split at h
  case h_2=>cases h
  rename_i d hd lq;rw[qD] at h;split at h
  .cases h
  have go:∀(pt:Nat),pt<=1->me pr l (acc++[(d,pt)])=some aa->x∈acc\/(x.2<=1/\∃o',o'∈o::l/\o'.dst=some x.1):=by
   intro pt wD hp
   rcases T3 l hp (λy hy=>by
        rcases dR.1 hy with h|h
        .exact ha y h
        .simp at h;subst h;exact wD) x hx with h|⟨h1,o',h2,h3⟩
   .rcases dR.1 h with h|h
    .exact .inl h
    .simp at h;subst h;exact .inr ⟨wD,o,dS ..,hd⟩
   .exact .inr ⟨h1,o',dK _ h2,h3⟩
  split at h
  .rw[qD] at h;split at h
   case isFalse=>cases h
   rename_i jH;simp only[av] at jH;exact go _ (kC jH.2) h
  .simp only[aA] at h;obtain⟨i,hi,h⟩:=h;exact go i (ha _ (Gj hi)) h
  .simp only[aA] at h;obtain⟨i,hi,h⟩:=h;exact go i (ha _ (Gj hi)) h
  .cases h
def CS {P:Program}{ops:Array Oper}{i:Nat}{rest:List Nat}{o:Oper}{rd:Option Nat}{a:Act}{w w':World}{Q:Exit->Act->World->Prop}{v:Value}(ho:ops[i]?=some o)(hg:o.guard=none)(bz:qe o.op=true)(hx:(execOp a.eval o).run P w=.ok (.value v) w')
 (k:wpOpsIn (FR rd) 0 P ops Q rest (a.put o.dst v) w'):wpOpsIn (FR rd) 0 P ops Q (i::rest) a w:=by
 simp only[wpOpsIn,ho];rw[if_pos (by simp[Region.wanted,hg])];exact agm bz (by unfold Oper.wp;rw[hx];exact k)
def axl {ops:Array Oper}{o:Oper}(ho:o∈ops.toList)(a:Act)(v:Value):SameBut (sG ops) a (a.put o.dst v):=by
 have:=SameBut.put a o.dst v a.defers;exact this.mono λt e=>⟨o,ho,e⟩
def CX {a:Act}{d:Nat}{v:Value}(h:d<a.tmps.size):(a.put (some d) v).tmps.getD d undef=v:=by rw[Ab];simp[h]
def MI {a:Act}{d t:Nat}{v:Value}(h:t≠d):(a.put (some d) v).tmps.getD t undef=a.tmps.getD t undef:=by rw[Ab];simp[h]
def put_defers (a:Act)(d:Option Nat)(v:Value):(a.put d v).defers=a.defers:=by cases d<;>rfl
def GB (kv vv:Value)(i:Nat):Value:=if i=0 then kv else vv
def agu {P:Program}{ops:Array Oper}{rd:Option Nat}{Q:Exit->Act->World->Prop}{pr:Nat}{kv vv:Value}{w:World}:∀(l:List Oper) (acc aa:List (Nat×Nat)) (i:Nat) (a:Act),me pr l acc=some aa->ops.toList.drop i=l->(∀x,x∈aa->x.1<a.tmps.size)->a.tmps.getD pr undef=.tuple #[kv,vv]->
 (∀x,x∈acc->a.tmps.getD x.1 undef=GB kv vv x.2)->(∀a',SameBut (sG ops) a a'->a'.defers=a.defers->(∀x,x∈aa->a'.tmps.getD x.1 undef=GB kv vv x.2)->Q .normal a' w)->wpOpsIn (FR rd) 0 P ops Q (List.range' i (ops.size-i)) a w
 |[],acc,aa,i,a,h,hl,ao,rl,oA,hQ=>by
  simp only[me,aZ] at h;subst h;have:ops.size-i=0:=by
    have:=Ow.1 hl;simp at this;omega
  rw[this];exact hQ a (.refl _ _) rfl oA
 |o::l,acc,aa,i,a,h,hl,ao,rl,oA,hQ=>by
  have hi:i<ops.toList.length:=by
   refine ZU λhle=>?_;rw[Ow.2 hle] at hl;cases hl
  rw[Ip hi] at hl;have ho:ops[i]?=some o:=by
   have:ops.toList[i]=o:=by injection hl
   rw[<-this];simp at hi ⊢
  have gQ:ops.toList.drop (i+1)=l:=by injection hl
  have aJ:ops.size-i=(ops.size-(i+1))+1:=by simp at hi;omega
  rw[aJ,It];have cO:o∈ops.toList:=by simpa using ja ho
  simp only[me] at h;split at h
  case h_2=>cases h
  rename_i d hd lq;rw[qD] at h;split at h
  .cases h
  rename_i hc;simp only[gJ,not_or,Bool.not_eq_true] at hc;have hdp:pr≠d:=λe=>by subst e;simp at hc
  have Q6:∀x,x∈acc->x.1≠d:=adI hc.2;have go:∀(pt:Nat) (v:Value),me pr l (acc++[(d,pt)])=some aa->qe o.op=true->v=GB kv vv pt->(execOp a.eval o).run P w=.ok (.value v) w->wpOpsIn (FR rd) 0 P ops Q (i::List.range' (i+1) (ops.size-(i+1))) a w:=by
   intro pt v hp bz hv hx;have Q7:d<a.tmps.size:=ao _ (My l hp (d,pt) (by simp));refine CS ho lq bz hx ?_;have lx:=axl cO a v;rw[hd] at lx ⊢;refine agu l _ aa (i+1) _ hp gQ (λx hx=>by rw[lx.size];exact ao x hx) (by rw[MI hdp];exact rl) (λx hx=>?_) (λa' h1 h2 h3=>hQ a' (lx.trans h1) (h2.trans (put_defers _ _ _)) h3);rcases dR.1 hx with hx|hx
   .rw[MI (Q6 x hx)];exact oA x hx
   .simp at hx;subst hx;rw[CX Q7];exact hv
  split at h
  .rename_i t pt e;rw[qD] at h;split at h
   case isFalse=>cases h
   rename_i jH;simp only[av] at jH;have ht:=aE jH.1;have wD:=kC jH.2;subst ht;have bY:a.eval (.tmp t)=.tuple #[kv,vv]:=by simpa [Act.eval] using rl
   refine go pt (GB kv vv pt) h (by rw[e];rfl) rfl ?_;rcases(by omega:pt=0\/pt=1) with rfl|rfl<;>simp[execOp,e,bY,Instr.extract,GB]
  .rename_i t e;simp only[aA] at h;obtain⟨pt,uI,h⟩:=h;have:=oA _ (Gj uI);exact go pt (a.eval (.tmp t)) h (by rw[e];rfl) (by simpa [Act.eval] using this) (by simp[execOp,e])
  .rename_i t e;simp only[aA] at h;obtain⟨pt,uI,h⟩:=h;have:=oA _ (Gj uI);exact go pt (a.eval (.tmp t)) h (by rw[e];rfl) (by simpa [Act.eval] using this) (by simp[execOp,e])
  .cases h
def Sw (ids:List Nat)(J j:Nat)(S:Snap):((S.kill ids J).st ids).o j=if j=J then .dead else(S.st ids).o j:=by
 show dG ids (zj ids J S.os) j=_;have:∀(is:List Nat) (os:List Ob),dG is (zj is J os) j=if j=J then .dead else dG is os j:=by
  intro is
  induction is with
  |nil=>intro os;simp[zj,dG]
  |cons i is ih=>
   intro os;cases os with
   |nil=>simp[zj,dG]
   |cons o os=>
    simp only[zj,dG];cases hb:Nat.beq i j
    .simp only[zyx];exact ih os
    .have:=aE hb;subst this;simp only[zyy];by_cases dt:i=J
     .subst dt;simp
     .simp[eY dt,dt]
 exact this ids S.os
def aai {N:Nat}{id:Nat}(Lo:id≠cY){rm:Bool}{wr:Nat->Prop}{a:Act}{q:Res2}{x xi:Out}(sR:(∀t,t∈q.pc.modR->aB q.mr t=true)/\∀j,j∈q.pc.modO->j∈q.mo)(dX:q.pc.ev Z N O=some xi)(bY:(hZ ids id q).pc.ev Z N O=some x){e:Exit}{a':Act}{w':World}
 (gx:iM C w0 σ0 ids fn s rm wr a q.out q.ex xi e a' w'):Exit.inBlock id (iM C w0 σ0 ids fn s rm wr a (hZ ids id q).out (hZ ids id q).ex x) e a' w':=by
 have abU:∀cg S1,(cg,S1)∈q.ex->cg≠id->(cg,S1)∈q.ex.filter λx=> !Nat.beq x.1 id:=λcg S1 hm aF=>eg.2 ⟨hm,by simp[eY aF]⟩;have main:∀(o:Option Snap) (lr lo:List Nat),qd id q.ex q.out=o->(∀M,o=some M->lr=lE M q.mr/\lo=km ids M q.mo)->(PC.block id lr lo q.pc).ev Z N O=some x->
        Exit.inBlock id (iM C w0 σ0 ids fn s rm wr a o (q.ex.filter λx=> !Nat.beq x.1 id) x) e a' w':=by
  intro o lr lo ho hl bY;simp only[PC.ev] at bY;rw[dX] at bY
  have fin:∀{ρ1:Env} {a':Act} {w':World},(∃M,o=some M/\Good C w0 σ0 (M.st ids) ρ1 (λ_=>False) a' w')->xi.env?=some ρ1->x=.next (O.join lr lo ρ1)->SameBut wr a a'->
   iM C w0 σ0 ids fn s rm wr a o (q.ex.filter λx=> !Nat.beq x.1 id) x .normal a' w':=by
        intro ρ1 a' w' hM yH hx fW;obtain⟨M,hM,uC⟩:=hM;obtain⟨l1,l2⟩:=hl M hM;subst l1 l2;exact⟨_,M,hx,hM,fW,uC.joined (PC.ev_but q.pc O _ ρ1 dX yH) sR.1 sR.2⟩
  cases e with
  |normal=>
   obtain⟨ρ1,S2,e1,e2,fW,jM⟩:=gx;subst e1;simp only[aZ] at bY;refine fin ?_ rfl bY.symm fW;rw[e2] at ho;obtain⟨M,h1,h2⟩:=Mb (id:=id) q.ex jM;rw[ho] at h1;exact⟨M,h1,h2⟩
  |exit cg=>
   obtain⟨ρ1,S2,e1,e0,e2,fW,jM⟩:=gx;subst e1;simp only at bY;show if cg=id then _ else _;by_cases cR:cg=id
   .subst cR;simp only[iK,zyy,aZ] at bY;simp only[if_true];refine fin ?_ rfl bY.symm fW;rw[<-ho];exact SP jM q.ex q.out e2
   .simp only[eY cR,zyx,aZ] at bY;subst bY;simp only[cR,if_false];exact⟨ρ1,S2,rfl,e0,abU _ _ e2 cR,fW,jM⟩
  |ret=>
   cases rm with
   |false=>
    have hy:=gx;obtain⟨d,e1,_⟩:=hy;subst e1;simp only[aZ] at bY;subst bY;exact gx
   |true=>
    obtain⟨ρ1,S2,e1,e2,fW,jM⟩:=gx;subst e1;simp only[eY (λe=>Lo e.symm:cY≠id),zyx,aZ] at bY;subst bY;exact⟨ρ1,S2,rfl,abU _ _ e2 (λe=>Lo e.symm),fW,jM⟩
  |_=>exact gx.elim
 unfold hZ at bY ⊢;cases hm:qd id q.ex q.out with
 |none=>
  simp only[hm] at bY ⊢;exact main none [] [] hm (λM e=>by cases e) bY
 |some M=>
  simp only[hm] at bY ⊢;exact main (some M) _ _ hm (λM' e=>by cases e;exact⟨rfl,rfl⟩) bY
def aag {N id:Nat}{q:Res2}{x:Out}(bY:(hZ ids id q).pc.ev Z N O=some x):∃xi,q.pc.ev Z N O=some xi:=by
 unfold hZ at bY;cases hm:qd id q.ex q.out<;>simp only[hm,PC.ev] at bY<;>cases dX:q.pc.ev Z N O<;>first|exact⟨_,rfl⟩|(rw[dX] at bY;cases bY)
def aio {es:List (D×D)}{idx:List Nat}(hn:idx.Nodup)(ao:∀i,i∈idx->i<es.length)(aU:∀i,i<es.length->i∈idx):(ix es idx).Perm (jt (.map es)):=by
 have h1:idx.Perm (List.range es.length):=by
  rw[List.perm_ext_iff_of_nodup hn OF];intro i;rw[cu];exact⟨ao i,aU i⟩
 have h2:ix es (List.range es.length)=jt (.map es):=by
  refine Oy (by simp[ix,jt,D.m]) λi g1 g2=>?_;have hi:i<es.length:=by simpa [ix] using g1
  simp[ix,jt,D.m,bL hi]
 rw[<-h2];exact h1.map _
def axq {es:List (D×D)}{idx:List Nat}(hn:idx.Nodup)(ao:∀i,i∈idx->i<es.length):∃rest,(ix es idx++rest).Perm (jt (.map es)):=by
 refine⟨ix es ((List.range es.length).filter λi=> !idx.contains i),?_⟩;have e:ix es idx++ix es ((List.range es.length).filter λi=> !idx.contains i)=ix es (idx++(List.range es.length).filter λi=> !idx.contains i):=by simp[ix]
 rw[e];refine aio ?_ (λi hi=>?_) (λi hi=>?_)
 .rw[An];refine⟨hn,OF.filter _,λa ha b hb e=>?_⟩;subst e;have:=(eg.1 hb).2;simp[ha] at this
 .rcases dR.1 hi with h|h
  .exact ao i h
  .exact cu.1 (eg.1 h).1
 .by_cases h:i∈idx
  .exact kB _ h
  .exact la _ (eg.2 ⟨cu.2 hi,by simp[h]⟩)
def aip (es:List (D×D))(idx:List Nat){i:Nat}{p:D×D}(h:es[i]?=some p):ix es (idx++[i])=ix es idx++[.tup [p.1,p.2]]:=by simp[ix,h]
def atQ {N:Nat}{x y z code:Code}{k:Nat}{p:MP}(hp:Ct x y k z=some p)(ihc:xU C Z fn s n ids R N code){rm:Bool}{S:Snap}{r:Res2}
 (hr:Cu ids n p (cN x++(cN y++(cN z++cN code))) (λS=>comp C fn s n ids R rm code S) S=some r) {rd:Option Nat} {wr:Nat->Prop} {x0:Out} (ir:rm=false->rd=none/\σ0.fin) (hC:CtxOK C σ0) (hY:qJ C Z w0 σ0)
 (jn:∀t,t∈cN (.loop (.seq x (.seq y (.block k (.seq z code)))))->wr t) (hn:a.tmps.size=n) (hg:Good C w0 σ0 (S.st ids) O (λ_=>False) a w) (he:r.pc.ev Z N O=some x0):
 (Code.loop (.seq x (.seq y (.block k (.seq z code))))).wpIn (FR rd) 0 C.P (iM C w0 σ0 ids fn s rm wr a r.out r.ex x0) a w:=by
 obtain⟨i1,i2,o1,o2,o3,l,rfl,rfl,rfl,hk,e1,e2,d1,g1,q1,d2,g2,q2,d3,g3,q3,oJ,n1,n2,n3,n4,n5,n6⟩:=atO hp;subst hk;unfold Cu at hr;split at hr
 case h_2=>cases hr;exact absurd he (nX _ _ _ _)
 rename_i J hJ;split at hr
 case h_2=>cases hr;exact absurd he (nX _ _ _ _)
 rename_i kt et Lt;simp only at hr;split at hr
 case h_2=>cases hr;exact absurd he (nX _ _ _ _)
 rename_i q hq;rw[qD] at hr;split at hr
 case isFalse=>cases hr;exact absurd he (nX _ _ _ _)
 rename_i sO;cases hr;generalize LU:cN (.region i1 p.ops1 false)++(cN (.cond (.tmp p.mo) .skip (.exit p.out))++(cN (.region i2 p.ops2 false)++cN code))=ws at*;simp only[av,jb] at sO;obtain⟨⟨⟨⟨⟨⟨⟨⟨c1,c2⟩,c3⟩,c4⟩,c5⟩,c6⟩,c7⟩,c8⟩,c9⟩:=sO;have hex:q.2.ex=[]:=vK.1 c1;have abt:J∉q.2.mo:=λh=>by rw[(ry _ _).2 h] at c2;cases c2
 simp only[ac7,av,jb] at c3;obtain⟨⟨c3a,c3b⟩,c3c⟩:=c3;have aqL:q.1.rs.getD p.it .none=.obj J 0:=Sh.beq_eq _ _ c3a;have LH:dG ids q.1.os J=.it kt et:=Ob.beq_eq _ _ c3b;have aqC:∀t,t∈p.aa.map (·.1)->t<n:=λt ht=>by have:=bT.1 c5 t ht;rwa [jC] at this
 have oH:p.nx<n:=by rwa [jC] at c6
 have Rs:p.mo<n:=by rwa [jC] at c7
 have rl:p.pr<n:=by rwa [jC] at c8
 have FG:=aE c9;obtain⟨hs,B7,bE⟩:=Gb (C:=C) (w0:=w0) (σ0:=σ0) (ids:=ids) 8 hq;simp only[aD] at hs;obtain⟨q0,wE,kj⟩:=hs;obtain⟨qS,qR⟩:=q;simp only at*;subst kj;generalize hm:zp ws=m at*;generalize yR:km ids qS (hZ ids p.next q0).mo=lo at*;have Ru:=aah (ids:=ids) (id:=p.next) (vV code wE);have ap2:∀j,j∈lo->j∈(hZ ids p.next q0).mo:=λj hj=>by rw[<-yR] at hj;exact Cv hj
 have aFV:J∉lo:=λh=>abt (ap2 J h);have FP:∃DK,MB ((hZ ids p.next q0).pc.ev Z N) O J (p.aa.map (·.1)) (p.aa.map (·.2)) lo DK/\x0=.exit p.out (O.put [] [] lo DK):=by
  simp only[PC.ev] at he;cases rl:MC ((hZ ids p.next q0).pc.ev Z N) O J (p.aa.map (·.1)) (p.aa.map (·.2)) lo with
  |none=>rw[rl] at he;cases he
  |some y=>
   obtain⟨DK,h1,rfl⟩:=zB.1 rl;rw[rl] at he;simp only[aZ] at he;exact⟨DK,h1,he.symm⟩
 obtain⟨DK,⟨wA,aoY⟩,hx0⟩:=FP;generalize kh:(O.o J).tget 1=es at*
 have dP:∀o,o∈p.ops1.toList->∀d,o.dst=some d->d∈ws:=λo ho d hd=>by
  rw[<-LU];exact kB _ (vM.2 ⟨o,ho,hd⟩)
 have di:∀o,o∈p.ops2.toList->∀d,o.dst=some d->d∈ws:=λo ho d hd=>by
  rw[<-LU];exact la _ (la _ (kB _ (vM.2 ⟨o,ho,hd⟩)))
 have hwc:∀d,d∈cN code->d∈ws:=λd hd=>by
  rw[<-LU];exact la _ (la _ (la _ hd))
 have Si:∀t,t∈ws->wr t:=λt ht=>jn t (by rw[<-LU] at ht;exact ht);have uP:∀t,t∈ws->aB m t=true:=λt ht=>by rw[<-hm];exact aaf ht
 have Rr:∀t,aB m t=true->((qS.mask m).st ids).r t=.none:=λt ht=>by rw[Gk,if_pos ht]
 have ap9:∀t,isNone (((qS.mask m).st ids).r t)=false->aB m t=false:=λt ht=>by
  cases hb:aB m t with
  |false=>rfl
  |true=>rw[Rr t hb] at ht;cases ht
 have gz:((qS.mask m).st ids).r p.it=.obj J 0:=by
  rw[Gk,c3c];show cP (qS.rs.getD p.it .none)=_;rw[aqL];rfl
 have db:((qS.mask m).st ids).o J=.it kt et:=LH;have kM:p.ops1[0]?=some o1:=by rw[<-DO,e1];rfl
 have fC:p.ops1[1]?=some o2:=by rw[<-DO,e1];rfl
 have ho3:p.ops2[0]?=some o3:=by rw[<-DO,e2];rfl
 have aq3:List.range p.ops1.size=[0,1]:=by
  have:p.ops1.size=2:=by rw[<-DP,e1];rfl
  rw[this];rfl
 have LR:List.range p.ops2.size=0::List.range' 1 (p.ops2.size-1):=by
  have:p.ops2.size=l.length+1:=by rw[<-DP,e2];rfl
  rw[this,OG,It];rfl
 have key:∀(kk:Nat) (done vo:List D) (a':Act) (w':World),SameBut wr a a'->Good C w0 σ0 ((qS.mask m).st ids) ((O.put [] [] lo vo).setO J (.tup [.list done,es])) (λ_=>False) a' w'->
  (∀ys,(done++ys).Perm (jt es)->mQ ((hZ ids p.next q0).pc.ev Z N) O J es (p.aa.map (·.1)) (p.aa.map (·.2)) lo ys done vo=some DK)->done.length+kk=(jt es).length+1->
  Code.roundsIn (FR rd) 0 C.P (.seq (.region i1 p.ops1 false) (.seq (.cond (.tmp p.mo) .skip (.exit p.out)) (.block p.next (.seq (.region i2 p.ops2 false) code)))) (iM C w0 σ0 ids fn s rm wr a none [(p.out,(qS.mask m).kill ids J)] x0) kk a' w':=by
  intro kk
  induction kk with
  |zero=>
   intro done vo a' w' _ gw _ hlen;exfalso;obtain⟨V,own,hv,h⟩:=gw;have bm:=h.objs J;rw[db] at bm;obtain⟨kb,mb,arr,clock,gq,idx,h1,h2,h3,aF,h4,h5,h6,h7,h8,h9,gL,mD⟩:=bm;simp only[Env.setO,aP] at h6;injection h6 with h6;injection h6 with yx yy;injection yy with yy _;injection yx with yx;subst yx;subst yy;have hle:idx.length<=arr.size:=by
        have:=List.Nodup.length_le_of_subset h7 (l₂:=List.range arr.size) (λi hi=>cu.2 (h8 i hi));simpa using this
   simp[ix,jt,D.m] at hlen;omega
  |succ kk ih=>
   intro done vo a' w' lx gw aU hlen;rw[roundsIn_succ];obtain⟨V,own,hv,h⟩:=gw;have bm:=h.objs J;rw[db] at bm;obtain⟨kb,mb,arr,clock,gq,idx,h1,h2,h3,aF,h4,h5,h6,h7,h8,h9,gL,mD⟩:=bm;simp only[Env.setO,aP] at h6;injection h6 with h6;injection h6 with yx yy;injection yy with yy _;injection yx with yx;subst yx;subst yy;have gS:=h.regs p.it;rw[gz] at gS;have Lp:a'.eval (.tmp p.it)=.pointer (some ⟨kb,0,none⟩):=by
        have:=gS.2 rfl;simp only[Act.eval];rw[this];exact h1
   have sV:a'.tmps.size=n:=lx.size.trans hn;obtain⟨w1,acS,LD⟩:=aue (P:=C.P) h5 h4 gL h8 o1.type;have F4:Below w'.heap.size w' w1:=by rcases acS with rfl|rfl;exact .refl _ _;exact⟨rfl,rfl,rfl,bB _,λ_ _=>rfl⟩
   have Ck:w1.heap=w'.heap:=by rcases acS with rfl|rfl<;>rfl
   have hkl:kb<w'.heap.size:=(h.owns kb J h2).2.1;have oF:mb<w'.heap.size:=(h.owns mb J h3).2.1;refine wpIn_seq (wpIn_region ?_);rw[aq3];rcases LD with⟨Rf,ar⟩|⟨i,e,uD,Ln,ar⟩
   ·
        refine CS kM g1 (by rw[q1];rfl) (v:=.tuple #[.bool false]) (w':=w1) (by simp only[execOp,q1,Lp];simp[ar]) ?_;rw[d1]
        refine CS fC g2 (by rw[q2];rfl) (v:=.bool false) (w':=w1) (by
         have:(a'.put (some p.nx) (.tuple #[.bool false])).eval (.tmp p.nx)=.tuple #[.bool false]:=by simp only[Act.eval];exact CX (by omega)
         simp only[execOp,q2,this];simp[Instr.extract]) ?_
        rw[d2];simp only[wpOpsIn]
        have y4:SameBut (λt=>t∈ws) a' ((a'.put (some p.nx) (.tuple #[.bool false])).put (some p.mo) (.bool false)):=by
         have s1:=SameBut.put a' (some p.nx) (.tuple #[.bool false]) a'.defers;have s2:=SameBut.put (a'.put (some p.nx) (.tuple #[.bool false])) (some p.mo) (.bool false) (a'.put (some p.nx) (.tuple #[.bool false])).defers;exact(s1.mono λt e=>by cases e;exact dP o1 (by rw[e1];simp) _ d1).trans (s2.mono λt e=>by cases e;exact dP o2 (by rw[e1];simp) _ d2)
        generalize yB:(a'.put (some p.nx) (.tuple #[.bool false])).put (some p.mo) (.bool false)=a1 at y4;have Rt:a1.eval (.tmp p.mo)=.bool false:=by
         rw[<-yB];simp only[Act.eval];exact CX (by rw[size_put];omega)
        have pS:a1.defers=a'.defers:=by rw[<-yB,put_defers,put_defers]
        refine wpIn_seq (wpIn_cond_false Rt (wpIn_exit ?_));have aqx:(ix gq idx++[]).Perm (jt (.map gq)):=by
         rw[nm];exact aio h7 (λi hi=>by rw[h9];exact h8 i hi) (λi hi=>Rf i (by omega))
        have acR:=aU [] aqx;simp only[mQ,aZ] at acR;subst acR;refine⟨_,_,hx0,n5,su.2 rfl,lx.trans (y4.mono Si),?_⟩;refine⟨V,own,hv,?_⟩
        refine h.step (S':=((qS.mask m).kill ids J).st ids) (O':=O.put [] [] lo vo) (A':=λ_=>False) (λj=>j=J) pS (.refl V) (h.ok.below F4) (λ_ _ _ hx=>.inl hx) (λ_ _ hx=>.inl hx) (F4.mono h.below.size) ⟨λ_=>bB _,λ_ _=>rfl⟩
         (λj hj=>⟨by rw[Sw,if_neg hj],by simp[Env.setO,bF _ _ hj],rfl,λb hb=>⟨hb,by rw[Ck]⟩⟩) (λj hj=>?_) (λb j hb=>?_) (λ_=>id) (λt=>?_) (λ_ hf=>hf.elim) (λb hb _=>by rw[Ck]) (λb j hb=>.inl ⟨j,hb⟩) (λj hj=>?_)
        .rw[Sw,if_pos hj];trivial
        .obtain⟨b1,b2,b3,b4⟩:=h.owns b j hb;exact⟨b1,by rw[Ck];exact b2,b3,b4⟩
        .by_cases ht:t∈ws
         .refine .inr ⟨?_,λgs s' e=>absurd e (Snap.noOpt _ _ t gs s')⟩;have:(((qS.mask m).kill ids J).st ids).r t=.none:=Rr t (uP t ht);rw[this];trivial
         .exact .inl ⟨rfl,y4.get t ht,rfl⟩
        .rw[Sw,if_pos hj];intro e;cases e
   ·
        obtain⟨pd,RL⟩:∃pd,gq[i]?=some pd:=⟨_,bL (by rw[h9];exact(gX.1 uD).1)⟩
        obtain⟨bq,cn⟩:=mD i e pd uD RL;generalize Cl:({w1 with heap:=w1.heap.setIfInBounds kb (.mapIter (some mb) clock (gW arr (idx++[i])) clock)}:World)=w2 at ar;have acT:w2.heap[kb]?=some (.mapIter (some mb) clock (gW arr (idx++[i])) clock):=by rw[<-Cl];simp[Ck,hkl]
        have Cm:∀b,b≠kb->w2.heap[b]?=w'.heap[b]?:=λb hb=>by rw[<-Cl];simp only[Ck];rw[Zz (vP hb)]
        have aGq:w2.heap.size=w'.heap.size:=by rw[<-Cl];simp[Ck]
        have acU:w2.heap[mb]?=some (.map arr clock):=by rw[Cm mb (vP aF)];exact h4
        refine CS kM g1 (by rw[q1];rfl) (v:=.tuple #[.bool true,e.key,e.val]) (w':=w2) (by simp only[execOp,q1,Lp];simp[ar]) ?_;rw[d1]
        refine CS fC g2 (by rw[q2];rfl) (v:=.bool true) (w':=w2) (by
         have:(a'.put (some p.nx) (.tuple #[.bool true,e.key,e.val])).eval (.tmp p.nx)=.tuple #[.bool true,e.key,e.val]:=by simp only[Act.eval];exact CX (by omega)
         simp only[execOp,q2,this];simp[Instr.extract]) ?_
        rw[d2];simp only[wpOpsIn]
        have y4:SameBut (λt=>t∈ws) a' ((a'.put (some p.nx) (.tuple #[.bool true,e.key,e.val])).put (some p.mo) (.bool true)):=by
         have s1:=SameBut.put a' (some p.nx) (.tuple #[.bool true,e.key,e.val]) a'.defers;have s2:=SameBut.put (a'.put (some p.nx) (.tuple #[.bool true,e.key,e.val])) (some p.mo) (.bool true) (a'.put (some p.nx) (.tuple #[.bool true,e.key,e.val])).defers;exact(s1.mono λt e=>by cases e;exact dP o1 (by rw[e1];simp) _ d1).trans (s2.mono λt e=>by cases e;exact dP o2 (by rw[e1];simp) _ d2)
        have ab6:(((a'.put (some p.nx) (.tuple #[.bool true,e.key,e.val])).put (some p.mo) (.bool true))).eval (.tmp p.it)=.pointer (some ⟨kb,0,none⟩):=by
         simp only[Act.eval] at Lp ⊢;rw[MI n2,MI n1];exact Lp
        generalize yB:(a'.put (some p.nx) (.tuple #[.bool true,e.key,e.val])).put (some p.mo) (.bool true)=a1 at y4 ab6;have Rt:a1.eval (.tmp p.mo)=.bool true:=by
         rw[<-yB];simp only[Act.eval];exact CX (by rw[size_put];omega)
        have pS:a1.defers=a'.defers:=by rw[<-yB,put_defers,put_defers]
        refine wpIn_seq (wpIn_cond_true Rt (wpIn_skip ?_));refine wpIn_block (wpIn_seq (wpIn_region ?_));rw[LR];refine CS ho3 g3 (by rw[q3];rfl) (v:=.tuple #[e.key,e.val]) (w':=w2) (by simp only[execOp,q3,ab6];simp[amA acT acU gL uD]) ?_;rw[d3]
        have hs3:SameBut (λt=>t∈ws) a1 (a1.put (some p.pr) (.tuple #[e.key,e.val])):=
         (SameBut.put a1 (some p.pr) (.tuple #[e.key,e.val]) a1.defers).mono λt e=>by cases e;exact di o3 (by rw[e2];simp) _ d3
        have acL:a1.tmps.size=n:=y4.size.trans sV;refine agu (kv:=e.key) (vv:=e.val) l [] p.aa 1 _ oJ (by rw[e2];rfl) (λx hx=>by rw[hs3.size,acL];exact aqC _ (fq.2 ⟨x,hx,rfl⟩)) (CX (by rw[acL];exact rl)) (λx hx=>by cases hx) (λa2 fW dM aqv=>?_);have RW:SameBut (λt=>t∈ws) a' a2:=(y4.trans hs3).trans (fW.mono λt ⟨o,ho,hd⟩=>di o ho t hd);have apn:a2.defers=a'.defers:=by rw[dM,put_defers,pS]
        have aq0:Good C w0 σ0 (((qS.mask m).start (p.aa.map (·.1)) (p.aa.map λx=>bif Nat.beq x.2 0 then kt else et)).st ids) ((O.put (p.aa.map (·.1)) ((p.aa.map (·.2)).map (D.tup [pd.1,pd.2]).tget) lo vo).setO J (.tup [.list (ix gq idx++[.tup [pd.1,pd.2]]),.map gq])) (λ_=>False) a2 w2:=by
         have Fj:Below w0.heap.size w' w2:=⟨by rw[<-Cl];exact F4.os,by rw[<-Cl];exact F4.tape,by rw[<-Cl];exact F4.output,by omega,λb hb=>Cm b (λe=>by subst e;have:=(h.owns b J h2).1;omega)⟩
         have kN:V.ok w2:=by
          refine⟨λb o v hc=>?_,λb es hc=>?_⟩
          .have pQ:b≠kb:=λe=>by subst e;rw[(h.owns b J h2).2.2.1 o] at hc;cases hc
           have:=h.ok.c b o v hc;simp only[World.cell?] at this ⊢;rw[Cm b pQ];exact this
          .have pQ:b≠kb:=λe=>by subst e;rw[(h.owns b J h2).2.2.2] at hc;cases hc
           exact(h.ok.m b es hc).keep (Cm b pQ)
         have gx:∀j,((O.put (p.aa.map (·.1)) ((p.aa.map (·.2)).map (D.tup [pd.1,pd.2]).tget) lo vo).setO J (.tup [.list (ix gq idx++[.tup [pd.1,pd.2]]),.map gq])).o j=if j=J then .tup [.list (ix gq idx++[.tup [pd.1,pd.2]]),.map gq] else putL O.o lo vo j:=λj=>by
          simp only[Env.setO,fQ];rfl
         refine⟨V,own,hv,h.step (λj=>j=J) apn (.refl V) kN (λ_ _ _ hx=>.inl hx) (λ_ _ hx=>.inl hx) Fj ⟨λ_=>bB _,λ_ _=>rfl⟩
          (λj hj=>⟨rfl,by rw[gx,if_neg hj];simp[Env.setO,bF _ _ hj,Env.put],rfl,λb hb=>⟨hb,Cm b (λe=>by subst e;rw[h2] at hb;cases hb;exact hj rfl)⟩⟩) (λj hj=>?_) (λb j hb=>?_) (λ_=>id) (λt=>?_) (λ_ hf=>hf.elim)
          (λb hb ho=>Cm b (λe=>by subst e;rw[h2] at ho;cases ho)) (λb j hb=>.inl ⟨j,hb⟩) (λj hj=>?_)⟩
         .subst hj;have:(((qS.mask m).start (p.aa.map (·.1)) (p.aa.map λx=>bif Nat.beq x.2 0 then kt else et)).st ids).o j=.it kt et:=LH;rw[this];refine⟨kb,mb,arr,clock,gq,idx++[i],h1,h2,h3,aF,acU,acT,by rw[gx,if_pos rfl,aip gq idx RL],?_,?_,h9,gL,mD⟩
          .rw[An];exact⟨h7,by simp,λa ha b hb e=>by simp at hb;subst hb;subst e;exact Ln ha⟩
          .intro i' dx;rcases dR.1 dx with h|h
           .exact h8 i' h
           .simp at h;subst h;exact(gX.1 uD).1
         .obtain⟨b1,b2,b3,b4⟩:=h.owns b j hb;exact⟨b1,by omega,b3,b4⟩
         .have hc:Compat ((qS.mask m).st ids) hv (((qS.mask m).start (p.aa.map (·.1)) (p.aa.map λx=>bif Nat.beq x.2 0 then kt else et)).st ids) hv:=⟨λ_=>bB _,λ_ _=>rfl⟩
          refine .inr ⟨?_,λgs s' e=>absurd e (Snap.noOpt _ _ t gs s')⟩;show aI C _ _ V hv (cP ((tF (p.aa.map (·.1)) (p.aa.map λx=>bif Nat.beq x.2 0 then kt else et) ((qS.mask m).rs.map uE)).getD t .none)) (a2.tmps.getD t undef) (putL O.r (p.aa.map (·.1)) ((p.aa.map (·.2)).map (D.tup [pd.1,pd.2]).tget) t);rcases V6 (p.aa.map (·.1)) (p.aa.map λx=>bif Nat.beq x.2 0 then kt else et) ((qS.mask m).rs.map uE) (by simp) c4 t with e|⟨BJ,vX⟩|⟨i',y,BJ,vX,Qj⟩
          .rw[e];trivial
          .rw[vX,CW _ _ _ _ BJ];have e3:((qS.mask m).rs.map uE).getD t .none=uE ((qS.mask m).rs.getD t .none):=by
            simp only[aL,cM];cases(qS.mask m).rs[t]?<;>rfl
           rw[e3];by_cases htw:t∈ws
           .have Cd:=Rr t (uP t htw);change cP ((qS.mask m).rs.getD t .none)=.none at Cd;generalize (qS.mask m).rs.getD t .none=s' at Cd;cases s'<;>simp[cP] at Cd<;>trivial
           .have hr:=h.regs t;change aI C _ _ V hv (cP ((qS.mask m).rs.getD t .none)) _ (O.r t) at hr;rw[RW.get t htw];generalize (qS.mask m).rs.getD t .none=s' at hr;cases s' with
            |yv=>trivial
            |opt gs s=>trivial
            |none=>trivial
            |fclo f c=>exact aI.mono' (.refl V) hc (λ_ _ e=>by cases e) hr
            |agg l=>exact aI.mono' (.refl V) hc (λ_ _ e=>by cases e) hr
            |dat t=>exact hr
            |obj j v=>exact aI.mono' (.refl V) hc (λ_ _ e=>by cases e) hr
            |ptr j v o=>exact aI.mono' (.refl V) hc (λ_ _ e=>by cases e) hr
            |eptr j v o q=>exact aI.mono' (.refl V) hc (λ_ _ e=>by cases e) hr
          .rw[Qj];have apI:i'<p.aa.length:=by have:=(fo.1 BJ).1;simpa using this
           rw[Ua _ (p.aa.map (·.1)) _ i' t (nL c4) (by simp) BJ];obtain⟨xa,l7⟩:∃xa,p.aa[i']?=some xa:=⟨_,bL apI⟩
           simp only[cM,l7,ld,aZ] at BJ vX;subst BJ;subst vX;rw[aqv xa (mw l7)];have hd:((p.aa.map (·.2)).map (D.tup [pd.1,pd.2]).tget).getD i' .none=(D.tup [pd.1,pd.2]).tget xa.2:=by simp[aL,l7]
           rw[hd];have h2x:xa.2<=1:=by
            rcases T3 l oJ (λx hx=>by cases hx) xa (mw l7) with h|h
            .cases h
            .exact h.1
           rcases(by omega:xa.2=0\/xa.2=1) with e0|e0<;>rw[e0]
           .exact bq
           .exact cn
         .have:(((qS.mask m).start (p.aa.map (·.1)) (p.aa.map λx=>bif Nat.beq x.2 0 then kt else et)).st ids).o j=.it kt et:=by rw[hj];exact LH
          rw[this];intro e;cases e
        have aqw:=aip gq idx RL;obtain⟨rest,wF⟩:∃rest,(ix gq idx++(D.tup [pd.1,pd.2])::rest).Perm (jt (.map gq)):=by
         obtain⟨rest,hr⟩:=axq (es:=gq) (idx:=idx++[i]) (by rw[An];exact⟨h7,by simp,λa ha b hb e=>by simp at hb;subst hb;subst e;exact Ln ha⟩) (λi' dx=>by
          rcases dR.1 dx with h|h
          .rw[h9];exact h8 i' h
          .simp at h;subst h;rw[h9];exact(gX.1 uD).1)
         rw[aqw] at hr;exact⟨rest,by simpa using hr⟩
        have ij:=aU _ wF;simp only[mQ] at ij;split at ij
        case h_2=>cases ij
        rename_i O2 La;obtain⟨xi,dX⟩:=aag La;refine wpIn_mono (ihc rm _ q0 wE rd w0 σ0 wr _ xi a2 w2 ir hC hY (λt ht=>Si t (hwc t ht)) (RW.size.trans sV) aq0 dX) λee a3 w3 gx=>?_;have lu:=aai n6 (vV code wE) dX La gx;have conv:∀ee a3 w3,iM C w0 σ0 ids fn s rm wr a2 (hZ ids p.next q0).out (hZ ids p.next q0).ex (.next O2) ee a3 w3->Exit.then (Code.roundsIn (FR rd) 0 C.P (.seq (.region i1 p.ops1 false) (.seq (.cond (.tmp p.mo) .skip (.exit p.out)) (.block p.next (.seq (.region i2 p.ops2 false) code)))) (iM C w0 σ0 ids fn s rm wr a none [(p.out,(qS.mask m).kill ids J)] x0) kk) (iM C w0 σ0 ids fn s rm wr a none [(p.out,(qS.mask m).kill ids J)] x0) ee a3 w3:=by
         intro ee a3 w3 ho;cases ee with
         |normal=>
          obtain⟨ρ3,T,f1,f2,f3,f4⟩:=ho;cases f1;refine ih (ix gq idx++[.tup [pd.1,pd.2]]) (lo.map O2.o) a3 w3 (lx.trans ((RW.mono Si).trans f3)) ?_ (λys zf=>?_) (by simp at hlen ⊢;omega)
          .have uC:Good C w0 σ0 (qS.st ids) O2 (λ_=>False) a3 w3:=by
            have:=f4.meet2 (x:=qS)
            rwa [B7 T f2] at this
           obtain⟨σ3,zy,F2,eI⟩:=uC;have Q0:=PC.ev_but _ _ _ O2 La rfl;refine⟨σ3,zy,F2,(eI.maskR m).env (Snap.noOpt _ _) (λt ht=>?_) (λj hj=>?_)⟩
           .have Cd:=ap9 t ht
            have cS:t∉(hZ ids p.next q0).pc.modR:=λdz=>by
                 have:=Ru.1 t dz;have h2:aB (Nat.lor m (hZ ids p.next q0).mr) t=true:=by rw[fS,this,px]
                 rw[FG,Cd] at h2;cases h2
            rw[Q0.r t cS]
            have sS:t∉p.aa.map (·.1):=λba=>by
                 have:aB m t=true:=by
                  refine uP t ?_;obtain⟨xa,l7,rfl⟩:=fq.1 ba;rcases T3 l oJ (λx hx=>by cases hx) xa l7 with h|⟨_,o,ho,hd⟩
                  .cases h
                  .exact di o (by rw[e2];exact dK _ ho) _ hd
                 rw[Cd] at this;cases this
            show O.r t=putL O.r (p.aa.map (·.1)) _ t;rw[CW _ _ _ _ sS]
           .have hjd:p9 (dG ids qS.os j)=false:=hj;show cr (putL O.o lo (lo.map O2.o)) J _ j=O2.o j;by_cases Cb:j=J
            .subst Cb;rw[aP,Q0.o j (λdz=>abt (Ru.2 j dz))];simp[Env.setO,aP]
            .rw[bF _ _ Cb,va];split
             .rfl
             .rename_i gO;have cS:j∉(hZ ids p.next q0).pc.modO:=λdz=>gO (by rw[<-yR];exact eg.2 ⟨Ru.2 j dz,by rw[hjd];rfl⟩);rw[Q0.o j cS];simp only[Env.setO,bF _ _ Cb];exact(Ub _ _ _ _ gO).symm
          .have:=aU ((D.tup [pd.1,pd.2])::ys) (by simpa using zf);simp only[mQ,La] at this;exact this
         |exit id=>obtain⟨ρ3,T,f1,_⟩:=ho;cases f1
         |ret=>
          cases rm with
          |false=>obtain⟨d,f1,_⟩:=ho;cases f1
          |true=>obtain⟨ρ3,T,f1,_⟩:=ho;cases f1
         |_=>exact ho.elim
        cases ee with
        |exit id=>
         simp only[Exit.inBlock] at lu;show if id=p.next then _ else _;split
         .rename_i cR;rw[if_pos cR] at lu;exact conv .normal a3 w3 lu
         .rename_i cR;rw[if_neg cR] at lu;exact conv (.exit id) a3 w3 lu
        |normal=>exact conv .normal a3 w3 lu
        |ret=>exact conv .ret a3 w3 lu
        |panic c=>exact gx.elim
        |goto l=>exact gx.elim
        |_=>exact gx.elim
 have hgq:Good C w0 σ0 (qS.st ids) O (λ_=>False) a w:=bE hg;obtain⟨V,own,hv,h⟩:=hgq;have bm:=h.objs J;have:(qS.st ids).o J=.it kt et:=LH;rw[this] at bm;obtain⟨kb,mb,arr,clock,gq,idx,h1,h2,h3,aF,h4,h5,h6,h7,h8,h9,gL,mD⟩:=bm;have hρJ:O.o J=.tup [.list [],es]:=by
  rw[h6] at wA kh;simp[D.tget] at wA kh;rw[h6,wA,<-kh]
 have yH:(O.put [] [] lo (lo.map O.o)).setO J (.tup [.list [],es])=O:=by
  rw[Env.put_self];show Env.mk _ _=_;have:cr O.o J (.tup [.list [],es])=O.o:=by
   funext j;rw[fQ];split
   .rename_i e;rw[e];exact hρJ.symm
   .rfl
  rw[this]
 exact wpIn_loop_rounds _ (key ((jt es).length+1) [] (lo.map O.o) a w (.refl _ _) (by rw[yH];exact⟨V,own,hv,h.maskR m⟩) (λys zf=>aoY ys zf) (by simp))
def alp {N:Nat}(gr:gY C Z)(hR:OO C n ids Z R):∀(k:Nat) (c:Code),sizeOf c<k->xU C Z fn s n ids R N c:=by
 intro k;refine Nat.rec (λc h=>absurd h (Nat.not_lt_zero _)) (λk IH=>?_) k;intro c hc;cases c with
 |skip=>
  intro rm S r h rd w0 σ0 wr O x a w ir hC hY jn hn hg he;simp only[comp,aZ] at h;subst h;simp only[PC.ev,aZ] at he;subst he;exact wpIn_skip ⟨O,S,rfl,rfl,.refl _ _,hg⟩
 |region id ops draw=>
  intro rm S r h rd w0 σ0 wr O x a w ir hC hY jn hn hg he;simp only[comp,aD] at h;obtain⟨q,hq,rfl⟩:=h;simp only[PC.ev,aD] at he;obtain⟨O',hr,rfl⟩:=he;exact hR id ops draw S q hq rd w0 σ0 O O' a w _ hC hY hn hg hr (λa' w' fD gw=>⟨O',q.1,rfl,rfl,fD.mono (λt ⟨o,h1,h2⟩=>jn t (vM.2 ⟨o,h1,h2⟩)),gw⟩)
 |seq c1 c2=>
  have wN:=IH c1 (by simp at hc;omega);have kP:=IH c2 (by simp at hc;omega);intro rm S r h rd w0 σ0 wr O x a w ir hC hY jn hn hg he;have dP:∀t,t∈cN c1->wr t:=λt ht=>jn t (kB _ ht);have di:∀t,t∈cN c2->wr t:=λt ht=>jn t (la _ ht);simp only[comp,aA] at h;obtain⟨q,hq,h⟩:=h;split at h
  .rename_i ls;cases h;refine wpIn_seq (wpIn_mono (wN rm S _ hq rd w0 σ0 wr O x a w ir hC hY dP hn hg he) λe a' w' ho=>?_);cases e with
   |normal=>obtain⟨_,_,_,h2,_⟩:=ho;rw[ls] at h2;cases h2
   |_=>exact ho
  .rename_i S1 ls;simp only[aD] at h;obtain⟨p,hp,rfl⟩:=h;simp only[PC.ev] at he
   have key:∀x1,q.pc.ev Z N O=some x1->(match some x1 with|some (.next O')=>p.pc.ev Z N O'|y=>y)=some x->(Code.seq c1 c2).wpIn (FR rd) 0 C.P (iM C w0 σ0 ids fn s rm wr a p.out (q.ex++p.ex) x) a w:=by
      intro x1 h1 h2;refine wpIn_seq (wpIn_mono (wN rm S _ hq rd w0 σ0 wr O x1 a w ir hC hY dP hn hg h1) λe a' w' ho=>?_);have other:∀{e:Exit},e≠.normal->iM C w0 σ0 ids fn s rm wr a q.out q.ex x1 e a' w'->x1=x->iM C w0 σ0 ids fn s rm wr a p.out (q.ex++p.ex) x e a' w':=by
       intro e aF ho hx;subst hx;exact ho.mono (λy hy=>kB _ hy) (.refl _ _) (λe=>absurd e aF)
      cases e with
      |normal=>
       obtain⟨ρ1,S2,e1,e2,fW,jM⟩:=ho;subst e1;rw[ls] at e2;cases e2;simp only at h2;refine wpIn_mono (kP rm S1 _ hp rd w0 σ0 wr ρ1 x a' w' ir hC hY di (fW.size.trans hn) jM h2) λe a2 w2 fC=>?_;exact fC.mono (λy hy=>la _ hy) fW (λ_=>rfl)
      |exit id=>
       refine other (by simp) ho ?_;obtain⟨ρ1,S2,e1,_⟩:=ho;subst e1;simpa using h2
      |ret=>
       refine other (by simp) ho ?_;cases rm with
       |false=>obtain⟨d,e1,_⟩:=ho;subst e1;simpa using h2
       |true=>obtain⟨ρ1,S2,e1,_⟩:=ho;subst e1;simpa using h2
      |_=>exact ho.elim
   cases h1:q.pc.ev Z N O with
   |none=>rw[h1] at he;simp at he
   |some x1=>rw[h1] at he;exact key x1 h1 he
 |cond c c1 c2=>
  have wN:=IH c1 (by simp at hc;omega);have kP:=IH c2 (by simp at hc;omega);intro rm S r h rd w0 σ0 wr O x a w ir hC hY jn hn hg he;have dP:∀t,t∈cN c1->wr t:=λt ht=>jn t (kB _ ht);have di:∀t,t∈cN c2->wr t:=λt ht=>jn t (la _ ht);simp only[comp] at h;split at h
  case h_2=>cases h;exact absurd he (nX _ _ _ _)
  rename_i e hu;simp only[aA,aD] at h;obtain⟨q,hq,p,hp,rfl⟩:=h;have hb:∃b,a.eval c=.bool b/\e.ev O=.v (.bool b):=by
   obtain⟨V,own,hv,hi⟩:=hg;have:=cL (gs:=[]) hi hC rfl hu;generalize a.eval c=v at this;generalize e.ev O=d at this;cases this with|bool b=>exact⟨b,rfl,rfl⟩
  obtain⟨b,ij,cW⟩:=hb;have sR:=vV c1 hq;have FF:=vV c2 hp;have main:∀(o:Option Snap) (lr lo:List Nat) (rx:Res2),rx=⟨.ite e lr lo q.pc p.pc,o,q.ex++p.ex,Nat.lor q.mr p.mr,ku q.mo p.mo⟩->
        (∀M,o=some M->lr=lE M (Nat.lor q.mr p.mr)/\lo=km ids M (ku q.mo p.mo))->
        (∀S1 ρ1 a w,q.out=some S1->Good C w0 σ0 (S1.st ids) ρ1 (λ_=>False) a w->∃M,o=some M/\Good C w0 σ0 (M.st ids) ρ1 (λ_=>False) a w)->
        (∀S1 ρ1 a w,p.out=some S1->Good C w0 σ0 (S1.st ids) ρ1 (λ_=>False) a w->∃M,o=some M/\Good C w0 σ0 (M.st ids) ρ1 (λ_=>False) a w)->
        rx.pc.ev Z N O=some x->(Code.cond c c1 c2).wpIn (FR rd) 0 C.P (iM C w0 σ0 ids fn s rm wr a rx.out rx.ex x) a w:=by
   intro o lr lo rx hrx hl sU oJ bY;subst hrx;simp only[PC.ev,cW,D.b_bool] at bY;have fin:∀(ci:Code) (qi:Res2) (xi:Out),(∀y,y∈qi.ex->y∈q.ex++p.ex)->(∀t,t∈qi.pc.modR->aB (Nat.lor q.mr p.mr) t=true)->(∀j,j∈qi.pc.modO->j∈ku q.mo p.mo)->
    (∀S1 ρ1 a w,qi.out=some S1->Good C w0 σ0 (S1.st ids) ρ1 (λ_=>False) a w->∃M,o=some M/\Good C w0 σ0 (M.st ids) ρ1 (λ_=>False) a w)->
    qi.pc.ev Z N O=some xi->(match some xi with|some (.next O')=>some (Out.next (O.join lr lo O'))|y=>y)=some x->
    ci.wpIn (FR rd) 0 C.P (iM C w0 σ0 ids fn s rm wr a qi.out qi.ex xi) a w->ci.wpIn (FR rd) 0 C.P (iM C w0 σ0 ids fn s rm wr a o (q.ex++p.ex) x) a w:=by
        intro ci qi xi hex jN nG ls dX hx Sg;refine wpIn_mono Sg λee a' w' ho=>?_;have other:ee≠.normal->xi=x->iM C w0 σ0 ids fn s rm wr a o (q.ex++p.ex) x ee a' w':=by
         intro aF lz;subst lz;exact ho.mono hex (.refl _ _) (λe=>absurd e aF)
        cases ee with
        |normal=>
         obtain⟨ρ1,S2,e1,e2,fW,jM⟩:=ho;subst e1;simp only[aZ] at hx;subst hx;obtain⟨M,hM,uC⟩:=ls S2 ρ1 a' w' e2 jM;obtain⟨l1,l2⟩:=hl M hM;subst l1 l2;exact⟨_,M,rfl,hM,fW,uC.joined (PC.ev_but qi.pc O _ ρ1 dX rfl) jN nG⟩
        |exit id=>
         refine other (by simp) ?_;obtain⟨ρ1,S2,e1,_⟩:=ho;subst e1;simpa using hx
        |ret=>
         refine other (by simp) ?_;cases rm with
         |false=>obtain⟨d,e1,_⟩:=ho;subst e1;simpa using hx
         |true=>obtain⟨ρ1,S2,e1,_⟩:=ho;subst e1;simpa using hx
        |_=>exact ho.elim
   refine wpIn_cond ij ?_;cases b with
   |true=>
    simp only[zyy] at bY;cases dX:q.pc.ev Z N O with
    |none=>rw[dX] at bY;simp at bY
    |some xi=>
     rw[dX] at bY;refine fin c1 q xi (λy hy=>kB _ hy) (λt ht=>?_) (λj hj=>rz.2 (.inl (sR.2 j hj))) sU dX bY (wN rm S _ hq rd w0 σ0 wr O xi a w ir hC hY dP hn hg dX);rw[fS,sR.1 t ht];rfl
   |false=>
    simp only[zyx] at bY;cases dX:p.pc.ev Z N O with
    |none=>rw[dX] at bY;simp at bY
    |some xi=>
     rw[dX] at bY;refine fin c2 p xi (λy hy=>la _ hy) (λt ht=>?_) (λj hj=>rz.2 (.inr (FF.2 j hj))) oJ dX bY (kP rm S _ hp rd w0 σ0 wr O xi a w ir hC hY di hn hg dX);rw[fS,FF.1 t ht,px]
  have sU:∀S1 ρ1 a w,q.out=some S1->Good C w0 σ0 (S1.st ids) ρ1 (λ_=>False) a w->∃M,nK q.out p.out=some M/\Good C w0 σ0 (M.st ids) ρ1 (λ_=>False) a w:=by
   intro S1 ρ1 a w e1 g1;rw[e1];obtain⟨M,hM⟩:=@aeb S1 p.out;exact⟨M,hM,ad9 g1 hM⟩
  have oJ:∀S1 ρ1 a w,p.out=some S1->Good C w0 σ0 (S1.st ids) ρ1 (λ_=>False) a w->∃M,nK q.out p.out=some M/\Good C w0 σ0 (M.st ids) ρ1 (λ_=>False) a w:=by
   intro S1 ρ1 a w e1 g1;rw[e1];obtain⟨M,hM⟩:=@aec q.out S1;exact⟨M,hM,aea g1 hM⟩
  cases hm:nK q.out p.out with
  |none=>
   rw[hm] at sU oJ;simp only[hm] at he ⊢;exact main none [] [] _ rfl (λM e=>by cases e) sU oJ he
  |some M=>
   rw[hm] at sU oJ;simp only[hm] at he ⊢;exact main (some M) _ _ _ rfl (λM' e=>by cases e;exact⟨rfl,rfl⟩) sU oJ he
 |block id c1=>
  have wN:=IH c1 (by simp at hc;omega);intro rm S r h rd w0 σ0 wr O x a w ir hC hY jn hn hg he;simp only[comp] at h;cases cR:Nat.beq id cY<;>simp only[cR,zyy,zyx] at h
  case true=>cases h;exact absurd he (nX _ _ _ _)
  have Lo:id≠cY:=λe=>by subst e;simp at cR
  simp only[aD] at h;obtain⟨q,hq,rfl⟩:=h;obtain⟨xi,dX⟩:=aag he;exact wpIn_block (wpIn_mono (wN rm S _ hq rd w0 σ0 wr O xi a w ir hC hY jn hn hg dX) λe a' w' gx=>aai Lo (vV c1 hq) dX he gx)
 |loop c1=>
  have wN:=IH c1 (by simp at hc;omega);intro rm S r h rd w0 σ0 wr O x a w ir hC hY jn hn hg he;rw[aaD] at h;split at h
  .rename_i qb FQ;obtain⟨p,code,ws⟩:=qb;unfold zn at FQ;split at FQ
   case h_2=>cases FQ
   rename_i cx cy ck cz cc;simp only[aD] at FQ;obtain⟨p',ba,ep⟩:=FQ;cases ep;exact atQ ba (IH _ (by simp at hc;omega)) h ir hC hY jn hn hg he
  split at h
  case h_2=>cases h;exact absurd he (nX _ _ _ _)
  rename_i q hq;cases h;obtain⟨hs,B7,bE⟩:=Gb (C:=C) (w0:=w0) (σ0:=σ0) (ids:=ids) 8 hq;have sR:=vV c1 hs;simp only[PC.ev] at he
  have Rg:Good C w0 σ0 (q.1.st ids) (O.put (lE q.1 q.2.mr) ((lE q.1 q.2.mr).map O.r) (km ids q.1 q.2.mo) ((km ids q.1 q.2.mo).map O.o)) (λ_=>False) a w:=by
   exact Good.joined (bE hg) (.refl O q.2.pc.modR q.2.pc.modO) sR.1 sR.2
  have key:∀(k:Nat) (ρ1:Env) (a':Act) (w:World),SameBut wr a a'->gC (q.2.pc.ev Z N) O (lE q.1 q.2.mr) (km ids q.1 q.2.mo) k ((lE q.1 q.2.mr).map ρ1.r) ((km ids q.1 q.2.mo).map ρ1.o)=some x->
        Good C w0 σ0 (q.1.st ids) (O.join (lE q.1 q.2.mr) (km ids q.1 q.2.mo) ρ1) (λ_=>False) a' w->Code.roundsIn (FR rd) 0 C.P c1 (iM C w0 σ0 ids fn s rm wr a none q.2.ex x) k a' w:=by
   intro k
   induction k with
   |zero=>intro ρ1 a' w hn hl hg;simp[gC] at hl
   |succ k ih=>
    intro ρ1 a' w lx hl hg;rw[roundsIn_succ];simp only[gC] at hl;change (match q.2.pc.ev Z N (O.join (lE q.1 q.2.mr) (km ids q.1 q.2.mo) ρ1) with|some (.next O')=>_|y=>y)=some x at hl;cases dX:q.2.pc.ev Z N (O.join (lE q.1 q.2.mr) (km ids q.1 q.2.mo) ρ1) with
    |none=>rw[dX] at hl;simp at hl
    |some xi=>
     rw[dX] at hl;refine wpIn_mono (wN rm _ _ hs rd w0 σ0 wr _ xi a' w ir hC hY jn (lx.size.trans hn) hg dX) λe a2 w' gx=>?_;have other:e≠.normal->xi=x->iM C w0 σ0 ids fn s rm wr a none q.2.ex x e a2 w':=by
         intro aF lz;subst lz;exact gx.mono (λy hy=>hy) lx (λe=>absurd e aF)
     cases e with
     |normal=>
      obtain⟨O2,S2,e1,e2,fW,jM⟩:=gx;subst e1;simp only at hl;refine ih O2 a2 w' (lx.trans fW) hl ?_
      have uC:Good C w0 σ0 (q.1.st ids) O2 (λ_=>False) a2 w':=by
       have:=jM.meet2 (x:=q.1)
       rwa [B7 S2 e2] at this
      refine uC.joined (mr':=lE q.1 q.2.mr++q.2.pc.modR) (mo':=km ids q.1 q.2.mo++q.2.pc.modO) ?_ (λt ht=>?_) (λj hj=>?_)
      .exact((Env.but.join O ρ1 _ _).mono (λt ht=>kB _ ht) (λt ht=>kB _ ht)).trans
        ((PC.ev_but q.2.pc _ _ O2 dX rfl).mono (λt ht=>la _ ht) (λt ht=>la _ ht))
      .exact(dR.1 ht).elim Mc (sR.1 t)
      .exact(dR.1 hj).elim Cv (sR.2 j)
     |exit id=>
      refine other (by simp) ?_;obtain⟨ρ1,S2,e1,_⟩:=gx;subst e1;simpa using hl
     |ret=>
      refine other (by simp) ?_;cases rm with
      |false=>obtain⟨d,e1,_⟩:=gx;subst e1;simpa using hl
      |true=>obtain⟨ρ1,S2,e1,_⟩:=gx;subst e1;simpa using hl
     |_=>exact gx.elim
  exact wpIn_loop_rounds N (key N O a w (.refl _ _) he Rg)
 |exit id=>
  intro rm S r h rd w0 σ0 wr O x a w ir hC hY jn hn hg he;simp only[comp] at h;cases cR:Nat.beq id cY<;>simp only[cR,zyy,zyx] at h
  case true=>cases h;exact absurd he (nX _ _ _ _)
  cases h;simp only[PC.ev,aZ] at he;subst he;exact wpIn_exit ⟨O,S,rfl,λe=>by subst e;simp at cR,by simp,.refl _ _,hg⟩
 |ret=>
  intro rm S r h rd w0 σ0 wr O x a w ir hC hY jn hn hg he;simp only[comp] at h;cases rm<;>simp only[zyy,zyx] at h
  case true=>
   cases h;simp only[PC.ev,aZ] at he;subst he;exact wpIn_ret ⟨O,S,rfl,by simp,.refl _ _,hg⟩
  split at h
  .rename_i e FU;cases h;simp only[PC.ev,aZ] at he;subst he;obtain⟨V,own,hv,hi⟩:=hg;exact wpIn_ret ⟨_,rfl,Inv.retD hC (λ_=>rfl) (ir rfl).2 FU _ hi rfl,.refl _ _⟩
  .cases h;exact absurd he (nX _ _ _ _)
 |rangeFunc g ps ca cb=>exact awG gr (IH ca (by simp at hc;omega)) (IH cb (by simp at hc;omega))
 |_=>intro rm S r h rd w0 σ0 wr O x a w ir hC hY jn hn hg he;simp only[comp,aZ] at h;subst h;exact absurd he (nX _ _ _ _)
def alo {N:Nat}(gr:gY C Z)(hR:OO C n ids Z R)(c:Code):xU C Z fn s n ids R N c:=alp gr hR _ c (Nat.lt_succ_self _)
end
end Cx
