/-
  Code: sequences, choices, blocks, loops.
-/
import Derived.LoopNIn
import Derived.Test.YtefchokhgdmamaaGreatDoorMAE
import Derived.LoopN
set_option linter.defProp false
set_option linter.unusedSimpArgs false
set_option linter.unusedVariables false
namespace Cx
open Go Go.RowKit
def ay (m t:Nat):Bool:= !Nat.beq (Nat.land 1 (Nat.shiftRight m t)) 0
def tP (m t:Nat):ay m t=m.testBit t:=by
 unfold ay Nat.testBit;show(!Nat.beq (1&&& (m>>>t)) 0)=((1&&& (m>>>t))!=0)
 generalize 1&&& (m>>>t)=x;cases x<;>rfl
def eI (t:Nat):Nat:=Nat.shiftLeft 1 t
def rQ (t:Nat):ay (eI t) t=true:=by
 rw[tP];show(1<<<t).testBit t=true;simp[Nat.testBit_shiftLeft]
def gu (m k t:Nat):ay (Nat.lor m k) t=(ay m t||ay k t):=by
 simp only[tP];exact Nat.testBit_or m k t
def PI.mask:PI->Nat
 |.setR t _=>eI t|.call _ t _ _=>eI t|.callc _ t _ _=>eI t|_=>0
def Lw:List PI->Nat
 |[]=>0
 |p::l=>Nat.lor p.mask (Lw l)
def PI.objs:PI->List Nat
 |.setO j _=>[j]|.mcall j _ _=>[j]|_=>[]
def gB (l:List Nat)(x:Nat):Bool:=l.any (Nat.beq x)
def kA (a b:List Nat):List Nat:=a.foldl (λacc x=>bif gB acc x then acc else x::acc) b
def acG (l:List PI):List Nat:=l.foldl (λacc p=>kA p.objs acc) []
def qY (l:List Nat)(x:Nat):gB l x=true↔x∈l:=by
 unfold gB;rw[tz];constructor
 .rintro⟨y,hy,h⟩;rw[aA h];exact hy
 .intro h;exact⟨x,h,ja x⟩
def qZ {x:Nat}:∀{a b:List Nat},x∈kA a b↔x∈a\/x∈b
 |[],b=>by simp[kA]
 |y::a,b=>by
  have ih:=@qZ x a (bif gB b y then b else y::b);have e:kA (y::a) b=kA a (bif gB b y then b else y::b):=rfl;rw[e,ih];cases hb:gB b y
  .simp[or_assoc,or_left_comm]
  .have:=(qY b y).1 hb;simp only[zyx,cZ];constructor
   .rintro(h|h)
    .exact .inl (.inr h)
    .exact .inr h
   .rintro((h|h)|h)
    .subst h;exact .inr this
    .exact .inl h
    .exact .inr h
def aqV {x:Nat}(l:List PI)(h:x∈l.flatMap PI.modO):x∈acG l:=by
 have key:∀(l:List PI) (acc:List Nat),(x∈l.flatMap PI.modO\/x∈acc)->x∈l.foldl (λacc p=>kA p.objs acc) acc:=by
  intro l
  induction l with
  |nil=>intro acc h;simpa using h
  |cons p l ih=>
   intro acc h;refine ih _ ?_;rw[tA,dm] at h;rcases h with(h|h)|h
   .refine .inr (qZ.2 (.inl ?_));cases p<;>simp_all [PI.modO,PI.objs]
   .exact .inl h
   .exact .inr (qZ.2 (.inr h))
 exact key l [] (.inl h)
def ach {t:Nat}:∀(l:List PI),t∈l.flatMap PI.modR->ay (Lw l) t=true
 |[],h=>by simp at h
 |p::l,h=>by
  rw[tA,dm] at h;simp only[Lw,gu,fQ];rcases h with h|h
  .left;cases p<;>simp[PI.modR] at h<;>subst h<;>exact rQ _
  .exact .inr (ach l h)
structure Res2 where
 pc:PC
 out:Option Snap
 ex:List (Nat×Snap)
 mr:Nat
 mo:List Nat
 deriving Inhabited
def nI:Option Snap->Option Snap->Option Snap
 |none,x=>x
 |x,none=>x
 |some a,some b=>some (a.meet b)
def pS (id:Nat):List (Nat×Snap)->Option Snap->Option Snap
 |[],acc=>acc
 |x::l,acc=>pS id l (bif Nat.beq x.1 id then nI acc (some x.2) else acc)
def iter (step:Snap->Option Res2):Nat->Snap->Option (Snap×Res2)
 |0,_=>none
 |k+1,S=>(step S).bind λr=>
  match r.out with
  |none=>some (S,r)
  |some T=>bif (S.meet T).beq S then some (S,r) else iter step k (S.meet T)
def lF (S:Snap)(m:Nat):List Nat:=(List.range S.rs.length).filter λt=>ay m t&& !isNone (db (S.rs.getD t .none))
def kq (ids:List Nat)(S:Snap)(l:List Nat):List Nat:=l.filter λj=> !pP (eF ids S.os j)
def iJ:Res2:=⟨.is [Hm],none,[],0,[]⟩
def nR (Z:aV)(N:Nat)(O:Env)(x:Out):iJ.pc.ev Z N O≠some x:=by
 intro h;simp[iJ,PC.ev,PI.runs,PI.run,Hm,PE.ev,D.b_bool] at h
def nS:(∀t,t∈iJ.pc.modR->ay iJ.mr t=true)/\∀j,j∈iJ.pc.modO->j∈iJ.mo:=by
 constructor<;>intro t h<;>simp[iJ,PC.modR,PC.modO,PI.modR,PI.modO,Hm] at h
def cT:Code->List Nat
 |.region _ ops _=>ops.toList.filterMap (·.dst)
 |.seq a b=>cT a++cT b
 |.cond _ a b=>cT a++cT b
 |.block _ a=>cT a
 |.loop a=>cT a
 |_=>[]
def y2 (l:List Nat):Nat:=l.foldr (λt m=>Nat.lor (eI t) m) 0
def uE (m:Nat):Nat->List Sh->List Sh
 |_,[]=>[]
 |t,s::l=>(bif ay m t then .none else s)::uE m (t+1) l
def Snap.mask (m:Nat)(S:Snap):Snap:=⟨uE m 0 S.rs,S.os⟩
def uk:Sh->Sh
 |.yv=>.none
 |s=>s
def sZ:List Nat->List Ty->List Sh->List Sh
 |p::ps,y::ys,l=>sZ ps ys (l.set p (.dat y))
 |_,_,l=>l
def Snap.start (ps:List Nat)(ys:List Ty)(S:Snap):Snap:=⟨sZ ps ys (S.rs.map uk),S.os⟩
def ab8 (ids:List Nat)(l:List Snap)(mo:List Nat):List Nat:=mo.filter λj=>l.any λS=> !pP (eF ids S.os j)
def atV (wm:Nat)(ra rb:Res2):Res2:=
 let m:=Nat.lor wm (Nat.lor ra.mr rb.mr)
 ⟨.seq ra.pc rb.pc,rb.out.map (Snap.mask m),rb.ex.map (λx=>(x.1,x.2.mask m)),m,kA ra.mo rb.mo⟩
def ib (ids:List Nat)(id:Nat)(r:Res2):Res2:=
    match pS id r.ex r.out with
    |some M=>⟨.block id (lF M r.mr) (kq ids M r.mo) r.pc,some M,r.ex.filter λx=> !Nat.beq x.1 id,r.mr,r.mo⟩
    |none=>⟨.block id [] [] r.pc,none,r.ex.filter λx=> !Nat.beq x.1 id,r.mr,r.mo⟩
def wE:List (Nat×Nat)->Nat->Option Nat
 |[],_=>none
 |x::l,t=>bif Nat.beq x.1 t then some x.2 else wE l t
def mj (pr:Nat):List Oper->List (Nat×Nat)->Option (List (Nat×Nat))
 |[],acc=>some acc
 |o::l,acc=>
  match o.dst,o.guard with
  |some d,none=>
   bif Nat.beq d pr||(wE acc d).isSome then none else
   match o.op with
   |.extract (.tmp t) i=>bif Nat.beq t pr&&Nat.ble i 1 then mj pr l (acc++[(d,i)]) else none
   |.assign (.tmp t)=>(wE acc t).bind λi=>mj pr l (acc++[(d,i)])
   |.move (.tmp t)=>(wE acc t).bind λi=>mj pr l (acc++[(d,i)])
   |_=>none
  |_,_=>none
structure MP where
 it:Nat
 nx:Nat
 mo:Nat
 out:Nat
 next:Nat
 pr:Nat
 ops1:Array Oper
 ops2:Array Oper
 aa:List (Nat×Nat)
 deriving Inhabited
def B1 (x y:Code)(k:Nat)(z:Code):Option MP:=
 match x,y,z with
 |.region _ ops1 false,.cond (.tmp mo) .skip (.exit out),.region _ ops2 false=>
  match ops1.toList,ops2.toList with
  |[o1,o2],o3::l=>
   match o1.dst,o1.guard,o1.op,o2.dst,o2.guard,o2.op,o3.dst,o3.guard,o3.op with
   |some nx,none,.next (.tmp it) false,some mo',none,.extract (.tmp nx') 0,some pr,none,.entry (.tmp it')=>
    bif Nat.beq mo mo'&&Nat.beq nx nx'&&Nat.beq it it'&& !Nat.beq it nx&& !Nat.beq it mo&& !Nat.beq it pr&& !Nat.beq nx mo&& !Nat.beq out du&& !Nat.beq k du then
     (mj pr l []).map λaa=>⟨it,nx,mo,out,k,pr,ops1,ops2,aa⟩
    else none
   |_,_,_,_,_,_,_,_,_=>none
  |_,_=>none
 |_,_,_=>none
def yV:List Nat->Nat->List Ob->List Ob
 |i::is,J,o::os=>(bif Nat.beq i J then .dead else o)::yV is J os
 |_,_,os=>os
def Snap.kill (ids:List Nat)(J:Nat)(S:Snap):Snap:=⟨S.rs,yV ids J S.os⟩
def abu (J:Nat)(kt et:Ty)(ids:List Nat)(p:MP)(m:Nat)(S:Snap):Bool:=
 Sh.beq (S.rs.getD p.it .none) (.obj J 0)&&Ob.beq (eF ids S.os J) (.it kt et)&& !ay m p.it
def B2 (ids:List Nat)(n:Nat)(p:MP)(ws:List Nat)(f:Snap->Option Res2)(S:Snap):Option Res2:=
 match db (S.rs.getD p.it .none) with
 |.obj J 0=>
  match eF ids S.os J with
  |.it kt et=>
   let ps:=p.aa.map (·.1)
   let ys:=p.aa.map λx=>bif Nat.beq x.2 0 then kt else et
   let m:=y2 ws
   match iter (λS=>(f ((S.mask m).start ps ys)).map (ib ids p.next)) 8 S with
   |some r=>
    bif r.2.ex.isEmpty&& !gB r.2.mo J&&abu J kt et ids p m r.1&&iy ps&&ps.all (λt=>Nat.blt t n)&&Nat.blt p.nx n&&Nat.blt p.mo n&&Nat.blt p.pr n&&Nat.beq (Nat.lor m r.2.mr) m then
       some ⟨.seq (.meach J ps (p.aa.map (·.2)) (kq ids r.1 r.2.mo) r.2.pc) (.exit p.out),none,[(p.out,(r.1.mask m).kill ids J)],0,r.2.mo⟩
    else some iJ
   |none=>some iJ
  |_=>some iJ
 |_=>some iJ
def comp (C:Ctx)(fn:Func)(s:Sig)(n:Nat)(ids:List Nat)(R:Array Oper->Bool->Snap->Option (Snap×List PI)):Bool->Code->Snap->Option Res2
 |_,.skip,S=>some ⟨.skip,some S,[],0,[]⟩
 |_,.region _ ops draw,S=>(R ops draw S).map λr=>⟨.is r.2,some r.1,[],Lw r.2,acG r.2⟩
 |rm,.seq a b,S=>(comp C fn s n ids R rm a S).bind λr=>
  match r.out with
  |none=>some r
  |some S1=>(comp C fn s n ids R rm b S1).map λq=>⟨.seq r.pc q.pc,q.out,r.ex++q.ex,Nat.lor r.mr q.mr,kA r.mo q.mo⟩
 |rm,.cond c a b,S=>
  match use C (S.st ids) [] c with
  |some (.bool,e)=>
   (comp C fn s n ids R rm a S).bind λr=>(comp C fn s n ids R rm b S).map λq=>
     match nI r.out q.out with
     |some M=>⟨.ite e (lF M (Nat.lor r.mr q.mr)) (kq ids M (kA r.mo q.mo)) r.pc q.pc,some M,r.ex++q.ex,Nat.lor r.mr q.mr,kA r.mo q.mo⟩
     |none=>⟨.ite e [] [] r.pc q.pc,none,r.ex++q.ex,Nat.lor r.mr q.mr,kA r.mo q.mo⟩
  |_=>some iJ
 |rm,.block id a,S=>bif Nat.beq id du then some iJ else(comp C fn s n ids R rm a S).map (ib ids id)
 |rm,.loop (.seq x (.seq y (.block k (.seq z code)))),S=>
  (match B1 x y k z with
  |some p=>B2 ids n p (cT x++(cT y++(cT z++cT code))) (λS=>comp C fn s n ids R rm code S) S
  |none=>
  match iter (λS=>comp C fn s n ids R rm (.seq x (.seq y (.block k (.seq z code)))) S) 8 S with
  |some r=>some ⟨.loop (lF r.1 r.2.mr) (kq ids r.1 r.2.mo) r.2.pc,none,r.2.ex,r.2.mr,r.2.mo⟩
  |none=>some iJ)
 |rm,.loop a,S=>
  match iter (λS=>comp C fn s n ids R rm a S) 8 S with
  |some r=>some ⟨.loop (lF r.1 r.2.mr) (kq ids r.1 r.2.mo) r.2.pc,none,r.2.ex,r.2.mr,r.2.mo⟩
  |none=>some iJ
 |_,.exit id,S=>bif Nat.beq id du then some iJ else some ⟨.exit id,none,[(id,S)],0,[]⟩
 |rm,.ret,S=>
  bif rm then some ⟨.exit du,none,[(du,S)],0,[]⟩ else
  match zw C fn s (S.st ids) with
  |some e=>some ⟨.ret e,none,[],0,[]⟩
  |none=>some iJ
 |rm,.rangeFunc g ps a b,S=>
  match rm,C.yl,use C (S.st ids) [] g with
  |false,none,some (.fn aa r,e)=>
   match nF aa r with
   |some ys=>
    match iter (λS=>(comp C fn s n ids R true a (S.start ps.toList ys)).bind λra=>
          match ra.out,ra.ex with
          |some S1,[]=>(comp C fn s n ids R true b S1).map (atV (y2 (ps.toList++cT a++cT b)) ra)
          |_,_=>none) 8 S with
    |some r=>
     bif Nat.beq ys.length ps.size&&iy ps.toList&&ps.toList.all (λp=>Nat.blt p n)&&Nat.ble r.1.rs.length n then
           some ⟨.seq (.is [.callc [] n e []]) (.each (.r n) ps.toList (ab8 ids (r.1::r.2.ex.map (·.2)) r.2.mo) ((pS du r.2.ex none).bind λM=>zw C fn s (M.st ids)) r.2.pc),
            some r.1,r.2.ex.filter (λx=> !Nat.beq x.1 du),eI n,r.2.mo⟩
     else some iJ
    |none=>some iJ
   |none=>some iJ
  |_,_,_=>some iJ
 |_,_,_=>some iJ
termination_by structural _ c=>c
def yZ:Code->Option (MP×Code×List Nat)
 |.seq x (.seq y (.block k (.seq z code)))=>(B1 x y k z).map λp=>(p,code,cT x++(cT y++(cT z++cT code)))
 |_=>none
def YJ (C:Ctx)(fn:Func)(s:Sig)(n:Nat)(ids:List Nat)(R:Array Oper->Bool->Snap->Option (Snap×List PI))(rm:Bool)(a:Code)(S:Snap):comp C fn s n ids R rm (.loop a) S=
 match yZ a with
 |some q=>B2 ids n q.1 q.2.2 (λS=>comp C fn s n ids R rm q.2.1 S) S
 |none=>
  match iter (λS=>comp C fn s n ids R rm a S) 8 S with
  |some r=>some ⟨.loop (lF r.1 r.2.mr) (kq ids r.1 r.2.mo) r.2.pc,none,r.2.ex,r.2.mr,r.2.mo⟩
  |none=>some iJ:=by
 by_cases h:∃x y k z code,a=.seq x (.seq y (.block k (.seq z code)))
 .obtain⟨x,y,k,z,code,rfl⟩:=h
  conv=>lhs;unfold comp
  simp only[yZ];cases B1 x y k z<;>rfl
 .have e:yZ a=none:=by
   unfold yZ;split
   .rename_i x y k z code;exact absurd ⟨x,y,k,z,code,rfl⟩ h
   .rfl
  rw[e];rw[comp];intro x y k z code e;exact h ⟨x,y,k,z,code,e⟩
def subs:Code->List Code
 |.seq a b=>.seq a b::(subs a++subs b)
 |.cond c a b=>.cond c a b::(subs a++subs b)
 |.block i a=>.block i a::subs a
 |.loop a=>.loop a::subs a
 |.rangeFunc g ps a b=>.rangeFunc g ps a b::(subs a++subs b)
 |c=>[c]
def auA (c:Code):c∈subs c:=by cases c<;>simp[subs]
def aCD {a code:Code}{p:MP}{ws:List Nat}(h:yZ a=some (p,code,ws)):code∈subs a:=by
 unfold yZ at h;split at h
 .simp only[aC] at h;obtain⟨q,_,e⟩:=h;cases e;simp[subs,auA]
 .cases h
def N6 (C:Ctx)(n:Nat)(ids:List Nat)(Z:aV)(R:Array Oper->Bool->Snap->Option (Snap×List PI)):Prop:=
 ∀(id:Nat) (ops:Array Oper) (draw:Bool) (S:Snap) (r:Snap×List PI),R ops draw S=some r->
  ∀(rd:Option Nat) (w0:World) (σ0:Base) (O O':Env) (a:Act) (w:World) (Q:Exit->Act->World->Prop),CtxOK C σ0->rL C Z w0 σ0->a.tmps.size=n->Good C w0 σ0 (S.st ids) O (λ_=>False) a w->PI.runs Z r.2 O=some O'->
   (∀a' w',SameBut (rU ops) a a'->Good C w0 σ0 (r.1.st ids) O' (λ_=>False) a' w'->Q .normal a' w')->(Code.region id ops draw).wpIn (FR rd) 0 C.P Q a w
section
variable {C:Ctx} {O O':Env} {V:Im} {own:Nat->Option Nat} {hv:Nat->Value} {w0:World} {σ0:Base} {A:Nat->Prop} {a:Act} {w:World} {Z:aV} {n:Nat} {ids:List Nat} {fn:Func} {s:Sig}
 {R:Array Oper->Bool->Snap->Option (Snap×List PI)}
def iN (C:Ctx)(w0:World)(σ0:Base)(ids:List Nat)(fn:Func)(s:Sig)(rm:Bool)(wr:Nat->Prop)(a0:Act)(out:Option Snap)(ex:List (Nat×Snap))(x:Out):Exit->Act->World->Prop
 |.normal,a,w=>∃O S,x=.next O/\out=some S/\SameBut wr a0 a/\Good C w0 σ0 (S.st ids) O (λ_=>False) a w
 |.exit id,a,w=>∃O S,x=.exit id O/\id≠du/\(id,S)∈ex/\SameBut wr a0 a/\Good C w0 σ0 (S.st ids) O (λ_=>False) a w
 |.ret,a,w=>match rm with
  |false=>∃d,x=.ret d/\tI C w0 σ0 fn s d a.tmps a.defers w/\SameBut wr a0 a
  |true=>∃O S,x=.exit du O/\(du,S)∈ex/\SameBut wr a0 a/\Good C w0 σ0 (S.st ids) O (λ_=>False) a w
 |_,_,_=>False
def Good.meet1 {x y:Snap}(h:Good C w0 σ0 (x.st ids) O A a w):Good C w0 σ0 ((x.meet y).st ids) O (λ_=>False) a w:=by
 obtain⟨V,own,hv,h⟩:=h;exact⟨V,own,hv,Snap.meet_ok1 h⟩
def Good.meet2 {x y:Snap}(h:Good C w0 σ0 (y.st ids) O A a w):Good C w0 σ0 ((x.meet y).st ids) O (λ_=>False) a w:=by
 obtain⟨V,own,hv,h⟩:=h;exact⟨V,own,hv,Snap.meet_ok2 h⟩
def acp {x:Snap}{y:Option Snap}{M:Snap}(h:Good C w0 σ0 (x.st ids) O (λ_=>False) a w)(hm:nI (some x) y=some M):Good C w0 σ0 (M.st ids) O (λ_=>False) a w:=by
 cases y<;>simp[nI] at hm<;>subst hm
 .exact h
 .exact h.meet1
def acq {x:Option Snap}{y:Snap}{M:Snap}(h:Good C w0 σ0 (y.st ids) O (λ_=>False) a w)(hm:nI x (some y)=some M):Good C w0 σ0 (M.st ids) O (λ_=>False) a w:=by
 cases x<;>simp[nI] at hm<;>subst hm
 .exact h
 .exact h.meet2
def acr {x:Snap}{y:Option Snap}:∃M,nI (some x) y=some M:=by cases y<;>simp[nI]
def acs {x:Option Snap}{y:Snap}:∃M,nI x (some y)=some M:=by cases x<;>simp[nI]
def Lx {id:Nat}:∀(l:List (Nat×Snap)) {x:Snap},Good C w0 σ0 (x.st ids) O (λ_=>False) a w->∃M,pS id l (some x)=some M/\Good C w0 σ0 (M.st ids) O (λ_=>False) a w
 |[],x,h=>⟨x,rfl,h⟩
 |y::l,x,h=>by
  simp only[pS];cases Nat.beq y.1 id
  .exact Lx l h
  .obtain⟨M,hM⟩:=@acr x (some y.2);simp only[zyx,hM];exact Lx l (acp h hM)
def R2 {id:Nat}{S:Snap}(h:Good C w0 σ0 (S.st ids) O (λ_=>False) a w):∀(l:List (Nat×Snap)) (x:Option Snap),(id,S)∈l->∃M,pS id l x=some M/\Good C w0 σ0 (M.st ids) O (λ_=>False) a w
 |y::l,x,hm=>by
  simp only[pS];rcases cZ.1 hm with e|hm
  .subst e;simp only[ja,zyx];obtain⟨M,hM⟩:=@acs x S;rw[hM];exact Lx l (acq h hM)
  .exact R2 h l _ hm
def FA {step:Snap->Option Res2}:∀(k:Nat) {S:Snap} {r:Snap×Res2},iter step k S=some r->
 step r.1=some r.2/\(∀T,r.2.out=some T->r.1.meet T=r.1)/\∀{O:Env} {a:Act} {w:World},Good C w0 σ0 (S.st ids) O (λ_=>False) a w->Good C w0 σ0 (r.1.st ids) O (λ_=>False) a w
 |0,S,r,h=>by simp[iter] at h
 |k+1,S,r,h=>by
  simp only[iter,aw] at h;obtain⟨q,hq,h⟩:=h;split at h
  .rename_i ho;cases h;exact⟨hq,λT hT=>by simp[ho] at hT,λg=>g⟩
  .rename_i T ho;cases hb:(S.meet T).beq S<;>simp only[hb,zyx,zyw] at h
   .obtain⟨h1,h2,h3⟩:=FA k h;exact⟨h1,h2,λg=>h3 g.meet1⟩
   .cases h;refine⟨hq,λT' hT=>?_,λg=>g⟩;simp only[ho,aS] at hT;subst hT;exact Snap.beq_eq _ _ hb
def aby {step:Snap->Option Res2}{hv:Nat->Value}:∀(k:Nat) {S:Snap} {r:Snap×Res2},iter step k S=some r->Inv C (S.st ids) O V own hv w0 σ0 (λ_=>False) a w->Inv C (r.1.st ids) O V own hv w0 σ0 (λ_=>False) a w
 |0,S,r,h,_=>by simp[iter] at h
 |k+1,S,r,h,i=>by
  simp only[iter,aw] at h;obtain⟨q,hq,h⟩:=h;split at h
  .cases h;exact i
  .rename_i T ho;cases hb:(S.meet T).beq S<;>simp only[hb,zyx,zyw] at h
   .exact aby k h (Snap.meet_ok1 i)
   .cases h;exact i
def Good.joined {M:Snap}{m:Nat}{mo mr' mo':List Nat}(h:Good C w0 σ0 (M.st ids) O' (λ_=>False) a w)(hb:O.but O' mr' mo')(h1:∀t,t∈mr'->ay m t=true)(h2:∀j,j∈mo'->j∈mo):
 Good C w0 σ0 (M.st ids) (O.join (lF M m) (kq ids M mo) O') (λ_=>False) a w:=by
 obtain⟨V,own,hv,h⟩:=h;refine⟨V,own,hv,h.env (Snap.noOpt _ _) (λt ht=>?_) (λj hj=>?_)⟩
 .simp only[Env.join,Env.put,uO];split
  .rfl
  .rename_i hm;refine(hb.r t λE1=>hm ?_).symm;have ah:t<M.rs.length:=by
        refine XQ λhle=>?_;simp only[Snap.st,aN,tB hle,Option.getD_none,db,isNone] at ht;cases ht
   exact eW.2 ⟨cm.2 ah,by rw[h1 t E1];simpa [Snap.st] using ht⟩
 .simp only[Env.join,Env.put,uO];split
  .rfl
  .rename_i hm;refine(hb.o j λE1=>hm ?_).symm;exact eW.2 ⟨h2 j E1,by simpa [Snap.st] using hj⟩
def Ly {S:Snap}{m t:Nat}(h:t∈lF S m):ay m t=true:=by
 have:=(eW.1 h).2;simp only[aq] at this;exact this.1
def B3 {S:Snap}{l:List Nat}{j:Nat}(h:j∈kq ids S l):j∈l:=(eW.1 h).1
def Yj {id:Nat}{q:Res2}(h:(∀t,t∈q.pc.modR->ay q.mr t=true)/\∀j,j∈q.pc.modO->j∈q.mo):(∀t,t∈(ib ids id q).pc.modR->ay (ib ids id q).mr t=true)/\∀j,j∈(ib ids id q).pc.modO->j∈(ib ids id q).mo:=by
 unfold ib;cases hm:pS id q.ex q.out<;>simp only
 .simpa [PC.modR,PC.modO] using h
 .refine⟨λt ht=>?_,λj hj=>?_⟩
  .simp only[PC.modR,dm] at ht;exact ht.elim Ly (h.1 t)
  .simp only[PC.modO,dm] at hj;exact hj.elim B3 (h.2 j)
def aqO {p:MP}{ws:List Nat}{f:Snap->Option Res2}{S:Snap}{r:Res2}(h:B2 ids n p ws f S=some r):(∀t,t∈r.pc.modR->ay r.mr t=true)/\∀j,j∈r.pc.modO->j∈r.mo:=by
 unfold B2 at h;split at h
 case h_2=>cases h;exact nS
 split at h
 case h_2=>cases h;exact nS
 simp only at h;split at h
 case h_2=>cases h;exact nS
 rw[qh] at h;split at h
 .cases h;refine⟨λt ht=>by simp[PC.modR] at ht,λj hj=>?_⟩;simp only[PC.modO,mz] at hj;exact B3 hj
 .cases h;exact nS
def vE:∀(c:Code) {rm:Bool} {S:Snap} {r:Res2},comp C fn s n ids R rm c S=some r->(∀t,t∈r.pc.modR->ay r.mr t=true)/\∀j,j∈r.pc.modO->j∈r.mo:=by
 intro c
 induction c with
 |skip=>intro rm S r h;simp only[comp,aS] at h;subst h;simp[PC.modR,PC.modO]
 |region id ops draw=>
  intro rm S r h;simp only[comp,aC] at h;obtain⟨q,_,rfl⟩:=h;exact⟨λt ht=>ach _ ht,λj hj=>aqV _ hj⟩
 |seq x y ko yU=>
  intro rm S r h;simp only[comp,aw] at h;obtain⟨q,hq,h⟩:=h;split at h
  .cases h;exact ko hq
  .simp only[aC] at h;obtain⟨p,hp,rfl⟩:=h;refine⟨λt ht=>?_,λj hj=>?_⟩
   .simp only[PC.modR,dm] at ht;rw[gu,fQ];exact ht.imp ((ko hq).1 t) ((yU hp).1 t)
   .simp only[PC.modO,dm] at hj;rw[qZ];exact hj.imp ((ko hq).2 j) ((yU hp).2 j)
 |cond c x y ko yU=>
  intro rm S r h;simp only[comp] at h;split at h
  case h_2=>cases h;exact nS
  rename_i e _;simp only[aw,aC] at h;obtain⟨q,hq,p,hp,rfl⟩:=h;cases hm:nI q.out p.out<;>simp only[hm]
  .refine⟨λt ht=>?_,λj hj=>?_⟩
   .simp only[PC.modR,dm,tG] at ht;rw[gu,fQ];exact ht.imp ((ko hq).1 t) ((yU hp).1 t)
   .simp only[PC.modO,dm,tG] at hj;rw[qZ];exact hj.imp ((ko hq).2 j) ((yU hp).2 j)
  .refine⟨λt ht=>?_,λj hj=>?_⟩
   .simp only[PC.modR,dm] at ht;rw[gu,fQ];rcases ht with(ht|ht)|ht
    .have:=Ly ht;rw[gu,fQ] at this;exact this
    .exact .inl ((ko hq).1 t ht)
    .exact .inr ((yU hp).1 t ht)
   .simp only[PC.modO,dm] at hj;rcases hj with(hj|hj)|hj
    .exact B3 hj
    .exact qZ.2 (.inl ((ko hq).2 j hj))
    .exact qZ.2 (.inr ((yU hp).2 j hj))
 |block id x ko=>
  intro rm S r h;simp only[comp] at h;cases dy:Nat.beq id du<;>simp only[dy,zyx,zyw] at h
  case true=>cases h;exact nS
  simp only[aC] at h;obtain⟨q,hq,rfl⟩:=h;exact Yj (ko hq)
 |loop x ko=>
  intro rm S r h;rw[YJ] at h;split at h
  .exact aqO h
  split at h
  case h_2=>cases h;exact nS
  rename_i q hq;cases h;have hs:=(FA (C:=C) (w0:=default) (σ0:=Base.mk0 ⟨λ_ _=>none,λ_=>none⟩ 0) (ids:=ids) 8 hq).1;refine⟨λt ht=>?_,λj hj=>?_⟩
  .simp only[PC.modR,dm] at ht;exact ht.elim Ly ((ko hs).1 t)
  .simp only[PC.modO,dm] at hj;exact hj.elim B3 ((ko hs).2 j)
 |exit id=>
  intro rm S r h;simp only[comp] at h;cases dy:Nat.beq id du<;>simp only[dy,zyx,zyw] at h<;>cases h
  .simp[PC.modR,PC.modO]
  .exact nS
 |ret=>
  intro rm S r h;simp only[comp] at h;cases rm<;>simp only[zyx,zyw] at h
  case true=>cases h;simp[PC.modR,PC.modO]
  split at h
  .cases h;simp[PC.modR,PC.modO]
  .cases h;exact nS
 |rangeFunc g ps x y _ _=>
  intro rm S r h;simp only[comp] at h;split at h
  case h_2=>cases h;exact nS
  split at h
  case h_2=>cases h;exact nS
  split at h
  case h_2=>cases h;exact nS
  rename_i q hq;rw[qh] at h;split at h
  .cases h;refine⟨λt ht=>?_,λj hj=>?_⟩
   .simp[PC.modR,PI.modR] at ht;subst ht;exact rQ _
   .simp only[PC.modO,PI.modO,tA,XK,mz,tG] at hj;exact(eW.1 hj).1
  .cases h;exact nS
 |_=>intro rm S r h;simp only[comp,aS] at h;subst h;exact nS
def iN.mono {rm:Bool}{wr:Nat->Prop}{a0 a1:Act}{out aej:Option Snap}{ex Zb:List (Nat×Snap)}{x:Out}{e:Exit}(h:iN C w0 σ0 ids fn s rm wr a0 out ex x e a w)(he:∀y,y∈ex->y∈Zb)(hs:SameBut wr a1 a0)
 (ho:e=.normal->aej=out):iN C w0 σ0 ids fn s rm wr a1 aej Zb x e a w:=by
 cases e with
 |normal=>obtain⟨O,S,h1,h2,h3,h4⟩:=h;exact⟨O,S,h1,by rw[ho rfl];exact h2,hs.trans h3,h4⟩
 |exit id=>obtain⟨O,S,h1,h2,h3,h4,h5⟩:=h;exact⟨O,S,h1,h2,he _ h3,hs.trans h4,h5⟩
 |ret=>
  cases rm with
  |false=>obtain⟨d,h1,h2,h3⟩:=h;exact⟨d,h1,h2,hs.trans h3⟩
  |true=>obtain⟨O,S,h1,h3,h4,h5⟩:=h;exact⟨O,S,h1,he _ h3,hs.trans h4,h5⟩
 |_=>exact h.elim
def YV {body:Env->Option Out}{O:Env}{ps lo:List Nat}{rt:Option PE}{x:Out}:∀{xs vo:List D},lX body O ps lo rt xs vo=some x->
 ∃(m:Nat) (nU:Nat->List D),m<=xs.length/\nU 0=vo/\
  (∀i,i<m->∃y O',xs[i]?=some y/\body (O.put ps (partsOf ps y) lo (nU i))=some (.next O')/\lo.map O'.o=nU (i+1))/\
  ((m=xs.length/\x=.next (O.put [] [] lo (nU m)))\/
   (m<xs.length/\∃y id O',xs[m]?=some y/\body (O.put ps (partsOf ps y) lo (nU m))=some (.exit id O')/\
    ((id≠du/\x=.exit id (O.put [] [] lo (lo.map O'.o)))\/(id=du/\∃e,rt=some e/\x=.ret (e.ev (O.put [] [] lo (lo.map O'.o)))))))
 |[],vo,h=>by
  simp only[lX,aS] at h;exact⟨0,λ_=>vo,aY _,rfl,λi hi=>by omega,.inl ⟨rfl,h.symm⟩⟩
 |y::xs,vo,h=>by
  simp only[lX] at h;split at h
  .rename_i O' hb;obtain⟨m,nU,h1,h2,h3,h4⟩:=YV h;refine⟨m+1,λi=>match i with|0=>vo|i+1=>nU i,by simp;omega,rfl,λi hi=>?_,?_⟩
   .cases i with
    |zero=>exact⟨y,O',rfl,hb,h2.symm⟩
    |succ i=>simpa using h3 i (by omega)
   .rcases h4 with⟨e1,e2⟩|⟨e1,z,id,ρ2,e2,e3,e4⟩
    .exact .inl ⟨by simp[e1],e2⟩
    .exact .inr ⟨by simp;omega,z,id,ρ2,by simpa using e2,e3,e4⟩
  .rename_i id O' hb;refine⟨0,λ_=>vo,pf _,rfl,λi hi=>by omega,.inr ⟨by simp,y,id,O',rfl,hb,?_⟩⟩;cases dy:Nat.beq id du<;>simp only[dy,zyx,zyw] at h
   .refine .inl ⟨λe=>?_,(H4 h).symm⟩;subst e;simp at dy
   .simp only[aC] at h;obtain⟨e,he,e2⟩:=h;exact .inr ⟨aA dy,e,he,e2.symm⟩
  .cases h
def Yg {l:List Nat}{t:Nat}(h:t∈l):ay (y2 l) t=true:=by
 induction l with
 |nil=>cases h
 |cons x l ih=>
  have e:y2 (x::l)=Nat.lor (eI x) (y2 l):=rfl;rw[e,gu];rcases cZ.1 h with e|e
  .subst e;rw[rQ];rfl
  .rw[ih e];simp
def R0 (m:Nat):∀(l:List Sh) (k t:Nat),(uE m k l).getD t .none=if ay m (k+t)=true then .none else l.getD t .none
 |[],k,t=>by simp[uE]
 |s::l,k,0=>by
  simp only[uE,vm,iZ];cases ay m k<;>rfl
 |s::l,k,t+1=>by
  simp only[uE,Di];rw[R0 m l (k+1) t,show k+1+t=k+(t+1) by omega]
def FJ (m:Nat)(S:Snap)(t:Nat):((S.mask m).st ids).r t=if ay m t=true then .none else(S.st ids).r t:=by
 show db ((uE m 0 S.rs).getD t .none)=if ay m t=true then .none else db (S.rs.getD t .none);rw[R0,fR];split<;>rfl
def aqT {m:Nat}{x S:Snap}{t:Nat}(h:ay m t=true):((x.meet (S.mask m)).st ids).r t=.none:=by
 show db ((List.zipWith kr x.rs (uE m 0 S.rs)).getD t .none)=.none;rcases NL (f:=kr) x.rs (uE m 0 S.rs) t with h0|⟨s,u,h1,h2,h3⟩
 .rw[h0];rfl
 .rw[R0,fR,if_pos h] at h2;subst h2;rw[h3];cases s<;>rfl
def Inv.maskR {S:Snap}{hv:Nat->Value}(h:Inv C (S.st ids) O V own hv w0 σ0 A a w)(m:Nat):Inv C ((S.mask m).st ids) O V own hv w0 σ0 (λ_=>False) a w:=by
 have hc:Compat (S.st ids) hv ((S.mask m).st ids) hv:=⟨λ_=>aY _,λ_ _=>rfl⟩
 refine h.weaken (λt=>?_) (λj=>?_) (Snap.noOpt _ _) (λj hj=>⟨hj,rfl⟩)
 .refine aK.mono' (O:=O) (.refl V) hc (Snap.noOpt _ _ t) ?_;rw[FJ];split
  .trivial
  .exact h.regs t
 .exact(h.objs j).mono (.refl V) hc rfl rfl (λk hk=>⟨hk,rfl⟩)
def UM:∀(ps:List Nat) (ys:List Ty) (l:List Sh),ps.length=ys.length->iy ps=true->∀t,(sZ ps ys l).getD t .none=.none\/(t∉ps/\(sZ ps ys l).getD t .none=l.getD t .none)\/∃(i:Nat) (y:Ty),ps[i]?=some t/\ys[i]?=some y/\(sZ ps ys l).getD t .none=.dat y
 |[],ys,l,_,_,t=>.inr (.inl ⟨by simp,by cases ys<;>rfl⟩)
 |p::ps,[],l,h,_,t=>by simp at h
 |p::ps,y::ys,l,h,hn,t=>by
  have ir:=nJ hn;rw[nX] at ir;have dN:iy ps=true:=by
   simp only[iy,aq] at hn;exact hn.2
  show(sZ ps ys (l.set p (.dat y))).getD t .none=_\/_\/_;rcases UM ps ys (l.set p (.dat y)) (by simpa using h) dN t with e|⟨e1,e2⟩|⟨i,z,e1,e2,e3⟩
  .exact .inl e
  .by_cases hp:t=p
   .subst hp;by_cases ah:t<l.length
    .exact .inr (.inr ⟨0,y,rfl,rfl,by show(sZ ps ys (l.set t (.dat y))).getD t .none=_;rw[e2];simp[aN,ah]⟩)
    .left;rw[e2];simp[aN,ah]
   .refine .inr (.inl ⟨by simp[hp,e1],?_⟩);show(sZ ps ys (l.set p (.dat y))).getD t .none=_;rw[e2];simp only[aN,vn];rw[if_neg (λe=>hp e.symm)]
  .exact .inr (.inr ⟨i+1,z,by simpa using e1,by simpa using e2,e3⟩)
def nP:List Nat->List Value->Array Value->Array Value
 |p::ps,v::vs,T=>nP ps vs (T.setIfInBounds p v)
 |_,_,T=>T
def auj (ps:Array Nat)(vs:Array Value)(T:Array Value):(ps.zip vs).foldl (λT x=>T.setIfInBounds x.1 x.2) T=nP ps.toList vs.toList T:=by
 rw[<-Array.foldl_toList,Array.toList_zip];generalize ps.toList=l;generalize vs.toList=k
 induction l generalizing k T with
 |nil=>rfl
 |cons p l ih=>
  cases k with
  |nil=>rfl
  |cons v k=>simpa [nP] using ih (T.setIfInBounds p v) k
def agf:∀(ps:List Nat) (vs:List Value) (T:Array Value),(nP ps vs T).size=T.size
 |[],vs,T=>by cases vs<;>rfl
 |p::ps,[],T=>rfl
 |p::ps,v::vs,T=>by simp[nP,agf ps vs]
def Nd:∀(ps:List Nat) (vs:List Value) (T:Array Value) (t:Nat),t∉ps->(nP ps vs T).getD t undef=T.getD t undef
 |[],vs,T,t,_=>by cases vs<;>rfl
 |p::ps,[],T,t,_=>rfl
 |p::ps,v::vs,T,t,h=>by
  simp only[cZ,not_or] at h;simp only[nP];rw[Nd ps vs _ t h.2];simp only[fb,xw];rw[if_neg (λe=>h.1 e.symm)]
def age:∀(ps:List Nat) (vs:List Value) (T:Array Value) (i t:Nat),ps.Nodup->ps.length=vs.length->(∀p,p∈ps->p<T.size)->ps[i]?=some t->(nP ps vs T).getD t undef=vs.getD i undef
 |p::ps,v::vs,T,0,t,hn,hl,ah,h=>by
  simp at h;subst h;rw[nX] at hn;simp only[nP];rw[Nd ps vs _ p hn.1];simp[xw,ah p (er ..)]
 |p::ps,v::vs,T,i+1,t,hn,hl,ah,h=>by
  rw[nX] at hn;simp only[nP];have:=age ps vs (T.setIfInBounds p v) i t hn.2 (by simpa using hl) (λq hq=>by simpa using ah q (dW _ hq)) (by simpa using h);simpa using this
 |p::ps,[],T,i,t,hn,hl,ah,h=>by simp at hl
 |[],vs,T,i,t,hn,hl,ah,h=>by simp at h
def Ct (f:Nat->D):∀(ps:List Nat) (vs:List D) (t:Nat),t∉ps->putL f ps vs t=f t
 |[],vs,t,_=>by cases vs<;>rfl
 |p::ps,[],t,_=>rfl
 |p::ps,v::vs,t,h=>by
  simp only[cZ,not_or] at h;simp only[putL,bt _ _ h.1];exact Ct f ps vs t h.2
def S7 (f:Nat->D):∀(ps:List Nat) (vs:List D) (i t:Nat),ps.Nodup->ps.length=vs.length->ps[i]?=some t->putL f ps vs t=vs.getD i .none
 |p::ps,v::vs,0,t,hn,hl,h=>by
  simp at h;subst h;simp[putL,aO]
 |p::ps,v::vs,i+1,t,hn,hl,h=>by
  rw[nX] at hn;have ht:t∈ps:=lf (by simpa using h);have aB:t≠p:=λe=>hn.1 (e▸ht);simp only[putL,bt _ _ aB];have:=S7 f ps vs i t hn.2 (by simpa using hl) (by simpa using h);simpa using this
 |p::ps,[],i,t,hn,hl,h=>by simp at hl
 |[],vs,i,t,hn,hl,h=>by simp at h
def ass (ps:List Nat)(ds:List D)(i:Nat)(h:i<ps.length):(partsOf ps (.tup ds)).getD i .none=ds.getD i .none:=by
 simp[partsOf,aN,h,D.tget]
def asr (ps:List Nat)(x:D):(partsOf ps x).length=ps.length:=by simp[partsOf]
def Inv.startR {S:Snap}{hv:Nat->Value}(h:Inv C (S.st ids) O V own hv w0 σ0 A a w){ps:List Nat}{ys:List Ty}{args:List Value}{ds:List D}{lo:List Nat}{vo:List D}(hl:ps.length=ys.length)(bn:iy ps=true)(ah:∀p,p∈ps->p<a.tmps.size)(ha:rE C V ys args ds)
 (hρ:O=O'.put [] [] lo vo):Inv C ((S.start ps ys).st ids) (O'.put ps (partsOf ps (.tup ds)) lo vo) V own hv w0 σ0 (λ_=>False) {tmps:=nP ps args a.tmps,defers:=[]} w:=by
 obtain⟨a1,a2,a3⟩:=ha;have hn:=nJ bn;have hc:Compat (S.st ids) hv ((S.start ps ys).st ids) hv:=⟨λ_=>aY _,λ_ _=>rfl⟩
 have ho:∀j,(O'.put ps (partsOf ps (.tup ds)) lo vo).o j=O.o j:=λj=>by rw[hρ];rfl
 refine⟨trivial,h.ok,h.le,h.old,h.newc,h.newm,h.below,h.bw,h.owns,λt=>?_,λj=>(h.objs j).mono (.refl V) hc rfl (ho j) (λk hk=>⟨hk,rfl⟩),λt gs s e=>absurd e (Snap.noOpt _ _ t gs s),?_⟩
 .show aK C _ _ V hv (db ((sZ ps ys (S.rs.map uk)).getD t .none)) ((nP ps args a.tmps).getD t undef) (putL O'.r ps (partsOf ps (.tup ds)) t);rcases UM ps ys (S.rs.map uk) hl bn t with e|⟨e1,e2⟩|⟨i,y,e1,e2,e3⟩
  .rw[e];trivial
  .rw[e2,Nd _ _ _ _ e1,Ct _ _ _ _ e1];have hr:=h.regs t;change aK C _ O V hv (db (S.rs.getD t .none)) _ _ at hr;have hρr:O.r t=O'.r t:=by rw[hρ];show putL O'.r [] [] t=_;rfl
   rw[hρr] at hr;have e3:(S.rs.map uk).getD t .none=uk (S.rs.getD t .none):=by
        simp only[aN,cV];cases S.rs[t]?<;>rfl
   rw[e3];generalize S.rs.getD t .none=s at hr;cases s with
   |yv=>trivial
   |opt gs s=>trivial
   |none=>trivial
   |fclo f c=>exact aK.mono' (.refl V) hc (λ_ _ e=>by cases e) hr
   |agg l=>exact aK.mono' (.refl V) hc (λ_ _ e=>by cases e) hr
   |dat t=>exact hr
   |obj j v=>exact aK.mono' (.refl V) hc (λ_ _ e=>by cases e) hr
   |ptr j v o=>exact aK.mono' (.refl V) hc (λ_ _ e=>by cases e) hr
   |eptr j v o q=>exact aK.mono' (.refl V) hc (λ_ _ e=>by cases e) hr
  .rw[e3];have hi:i<ps.length:=(eV.1 e1).1;rw[age ps args a.tmps i t hn (by omega) ah e1,S7 _ ps _ i t hn (by rw[asr]) e1,ass _ _ _ hi];exact a3 i y e2
 .obtain⟨t,fx,cx,h1,h2⟩:=h.frame;exact⟨t,fx,cx,h1,λj hj=>⟨(h2 j hj).1,by rw[ho j];exact(h2 j hj).2⟩⟩
def xI (C:Ctx)(Z:aV)(fn:Func)(s:Sig)(n:Nat)(ids:List Nat)(R:Array Oper->Bool->Snap->Option (Snap×List PI))(N:Nat)(c:Code):Prop:=
 ∀(rm:Bool) (S:Snap) (r:Res2),comp C fn s n ids R rm c S=some r->∀(rd:Option Nat) (w0:World) (σ0:Base) (wr:Nat->Prop) (O:Env) (x:Out) (a:Act) (w:World),(rm=false->rd=none/\σ0.fin)->CtxOK C σ0->rL C Z w0 σ0->(∀t,t∈cT c->wr t)->a.tmps.size=n->
  Good C w0 σ0 (S.st ids) O (λ_=>False) a w->r.pc.ev Z N O=some x->c.wpIn (FR rd) 0 C.P (iN C w0 σ0 ids fn s rm wr a r.out r.ex x) a w
structure Seg (V:Im) (own:Nat->Option Nat) (w:World) (V':Im) (own':Nat->Option Nat) (w':World):Prop where
 le:V.le V'
 below:Below 0 w w'
 same:∀k,k<w.heap.size->own k=none->w'.heap[k]?=w.heap[k]?
 ow:∀k j,own' k=some j->(∃i,own k=some i)\/w.heap.size<=k
 imm:∀k,((∃o x,V'.c k o=some x)\/∃x,V'.m k=some x)->(∃o x,V.c k o=some x)\/(∃x,V.m k=some x)\/(∃i,own k=some i)\/w.heap.size<=k
structure Free (L:Nat) (V:Im) (own:Nat->Option Nat):Prop where
 own:own L=none
 c:∀o,V.c L o=none
 m:V.m L=none
def Free.seg {L:Nat}{V':Im}{own':Nat->Option Nat}{w':World}(h:Free L V own)(hL:L<w.heap.size)(k:Seg V own w V' own' w'):Free L V' own':=by
 have ER:¬((∃o x,V'.c L o=some x)\/∃x,V'.m L=some x):=λe=>by
  rcases k.imm L e with⟨o,x,e⟩|⟨x,e⟩|⟨i,e⟩|e
  .rw[h.c o] at e;cases e
  .rw[h.m] at e;cases e
  .rw[h.own] at e;cases e
  .omega
 refine⟨?_,λo=>?_,?_⟩
 .cases e:own' L with
  |none=>rfl
  |some j=>
   rcases k.ow L j e with⟨i,e⟩|e
   .rw[h.own] at e;cases e
   .omega
 .cases e:V'.c L o with
  |none=>rfl
  |some x=>exact absurd (.inl ⟨o,x,e⟩) ER
 .cases e:V'.m L with
  |none=>rfl
  |some x=>exact absurd (.inr ⟨x,e⟩) ER
def ahP (C:Ctx)(w0:World)(σ0:Base)(ids:List Nat)(wr:Nat->Prop)(a0:Act)(V:Im)(own:Nat->Option Nat)(w:World)(out:Option Snap)(ex:List (Nat×Snap))(x:Out)(e:Exit)(a':Act)(w':World):Prop:=
 ∃O' S' V' own' hv',Inv C (S'.st ids) O' V' own' hv' w0 σ0 (λ_=>False) a' w'/\Seg V own w V' own' w'/\SameBut wr a0 a'/\
  match e with
  |.normal=>x=.next O'/\out=some S'
  |.exit id=>x=.exit id O'/\id≠du/\(id,S')∈ex
  |.ret=>x=.exit du O'/\(du,S')∈ex
  |_=>False
def af7 {N:Nat}{c:Code}(hc:xI C Z fn s n ids R N c){S:Snap}{r:Res2}(hr:comp C fn s n ids R true c S=some r)(nD:C.yl=none)(hC:CtxOK C σ0){wr:Nat->Prop}{O:Env}{x:Out}{hv:Nat->Value}(h:Inv C (S.st ids) O V own hv w0 σ0 (λ_=>False) a w)
 (jm:∀t,t∈cT c->wr t) (hn:a.tmps.size=n) (he:r.pc.ev Z N O=some x) (L:Nat):c.wpIn (FR (some L)) 0 C.P (ahP C w0 σ0 ids wr a V own w r.out r.ex x) a w:=by
 obtain⟨t,fx,cx,dC,ht⟩:=h.frame;have h1:=h.toRnd (X:=λ_=>False) ht;refine wpIn_mono (hc true S r hr (some L) w0 (σ0.rnd V own w t λ_=>False) wr O x a w (λe=>by cases e) (hC.mono h.le) (λJ ys e=>by rw[nD] at e;cases e) jm hn ⟨_,_,_,h1⟩ he) λe a' w' ho=>?_
 have main:∀{S':Snap} {O':Env},SameBut wr a a'->Good C w0 (σ0.rnd V own w t λ_=>False) (S'.st ids) O' (λ_=>False) a' w'->∃V' own' hv',Inv C (S'.st ids) O' V' own' hv' w0 σ0 (λ_=>False) a' w'/\Seg V own w V' own' w'/\SameBut wr a a':=by
  intro S' O' hs hg;obtain⟨V',own',hv',h2⟩:=hg;exact⟨V',own',hv',h.ofRnd dC (λ_ _=>id) h2,⟨h2.le,h.rndBelow h2,λk hk ho=>Inv.rndSame h.ok h2 hk ho id,λk j e=>Inv.rndOwn h2 e id,λk e=>Inv.rndC h2 e id⟩,hs⟩
 cases e with
 |normal=>
  obtain⟨O',S',e1,e2,e3,e4⟩:=ho;obtain⟨V',own',hv',g1,g2,g3⟩:=main e3 e4;exact⟨O',S',V',own',hv',g1,g2,g3,e1,e2⟩
 |exit id=>
  obtain⟨O',S',e1,e0,e2,e3,e4⟩:=ho;obtain⟨V',own',hv',g1,g2,g3⟩:=main e3 e4;exact⟨O',S',V',own',hv',g1,g2,g3,e1,e0,e2⟩
 |ret=>
  obtain⟨O',S',e1,e2,e3,e4⟩:=ho;obtain⟨V',own',hv',g1,g2,g3⟩:=main e3 e4;exact⟨O',S',V',own',hv',g1,g2,g3,e1,e2⟩
 |_=>exact ho.elim
def Inv.putL {L:Nat}{hv:Nat->Value}{S:St}{O:Env}(h:Inv C S O V own hv w0 σ0 A a w)(hL:w0.heap.size<=L)(hf:Free L V own)(hx:∀t fx cx,FrOK V own w0.heap.size σ0 w t fx cx->¬fx L)(o:Obj):Inv C S O V own hv w0 σ0 A a (w.putObj L o):=
 h.keep (X:=λk=>k≠L) ⟨rfl,rfl,rfl,by simp,λk hk=>by omega⟩ (λk hk=>World.putObj_heap_other hk) (λk hk=>by omega) (λk j e1 e2=>by subst e2;rw[hf.own] at e1;cases e1) (λk o v e1 e2=>by subst e2;rw[hf.c] at e1;cases e1)
  (λk v e1 e2=>by subst e2;rw[hf.m] at e1;cases e1) (λt fx cx dC k hk e=>by subst e;exact hx t fx cx dC hk)
def axK {o:Oper}{L:Nat}{x:Operand}{aa:Array Operand}{ts:Array TypeId}{r:Loop}(bT:o.op=.call {callee:=.value x,args:=aa,argTypes:=ts})(hx:a.eval x=.func (.yield L) #[] #[])(hL:w.heap[L]?=some (.loop r))(hs:aa.size=r.params.size):
 (execOp a.eval o).run C.P w=.ok (.round L r.fn ((r.params.zip (aa.map a.eval)).foldl (λtmps (t,v)=>tmps.setIfInBounds t v) r.tmps) r.assign r.body) w:=by
 have hy:=run_yield (P:=C.P) (args:=aa.map a.eval) hL (by simpa using hs);simp[execOp,bT,resolve,hx,Deferred.ofValue,invoke,hy]
def ati {g:Operand}{f:Nat}{vs:List Value}{L:Nat}(hf:∃fn,C.P.funcs[f]?=some fn/\fn.body.isSome=true/\(fn.name== "runtime.NumGoroutine")=false)(hg:a.eval g=.func (.func f) #[] vs.toArray):
 (resolve a.eval (rangeCall g L) 0).run C.P w=.ok {target:=.fn (.func f) vs.toArray,args:=#[.func (.yield L) #[] #[]]} w/\
 (invoke (.fn (.func f) vs.toArray) #[.func (.yield L) #[] #[]]).run C.P w=.ok (.enter f (#[.func (.yield L) #[] #[]]++vs.toArray)) w:=by
 obtain⟨fn,h1,h2,h3⟩:=hf;obtain⟨bd,oo⟩:=XT.1 h2;have h4:¬fn.name= "runtime.NumGoroutine" :=by simpa using h3
 constructor
 .simp only[resolve,hg];simp[go_sem]
 .simp[invoke,callFunc,h1,oo,h4]
def FrOK.enter {hv:Nat->Value}{S:St}{O:Env}(h:Inv C S O V own hv w0 σ0 A a w){t:D}{fx cx:Nat->Prop}(hf:FrOK V own w0.heap.size σ0 w t fx cx)(r:Loop):FrOK (V.mark w.heap.size) own w0.heap.size σ0 ((w.alloc (.deferred (some []))).alloc (.loop r)) t fx cx:=by
 have hb:=YX w (.deferred (some [])) (.loop r);have ah:=σ0.lt _ _ _ _ hf.F;have bU:=σ0.sub _ _ _ _ hf.F;have EZ:∀k x,(V.mark w.heap.size).m k=some x->V.m k=some x\/k=w.heap.size:=by
  intro k x e;simp only[Im.mark] at e;split at e
  .rename_i e2;exact .inr e2
  .exact .inl e
 refine⟨σ0.keep _ _ _ _ _ hf.F (hb.mono (pf _)) λk hk=>hb.block k (ah k hk),hf.own,hf.c,λk x e hc=>?_,λk e hB hk=>?_⟩
 .rcases EZ k x e with e|e
  .exact hf.m k x e hc
  .have:=ah k (bU k hc);omega
 .rcases EZ k _ e with e|e
  .exact hf.d k e hB hk
  .have:=ah k hk;omega
structure RSt (C:Ctx) (w0:World) (σR:Base) (ids:List Nat) (ρ1:Env) (lo:List Nat) (aM:Act) (L:Nat) (W1:World) (σ1:Im) (rec:LoopState->Option Code->Loop) (xs:List D) (P:Nat->List D->Snap->LoopState->Option Code->Prop) (t:D) (fx cx:Nat->Prop) (w:World):Prop where
 lt:∀k,fx k->k<w.heap.size
 sub:∀k,cx k->fx k
 old:∀k,k<W1.heap.size->fx k
 ex:∃(i:Nat) (vo:List D) (Sx:Snap) (st:LoopState) (pe:Option Code) (V:Im) (own:Nat->Option Nat) (hv:Nat->Value),t=.list (xs.take i)/\P i vo Sx st pe/\Inv C (Sx.st ids) (ρ1.put [] [] lo vo) V own hv w0 σR (λ_=>False) aM w/\
  σ1.le V/\Free L V own/\w.heap[L]?=some (.loop (rec st pe))/\(∀k j,own k=some j->fx k)/\(∀k o x,V.c k o=some x->fx k)/\(∀k x,V.m k=some x->fx k)/\∀k,cx k↔((∃j,own k=some j)\/k=L)
def RSt.keep {σR:Base}{ρ1:Env}{lo:List Nat}{aM:Act}{L:Nat}{W1:World}{σ1:Im}{rec:LoopState->Option Code->Loop}{xs:List D}{P:Nat->List D->Snap->LoopState->Option Code->Prop}{t:D}{fx cx:Nat->Prop}{w w':World}
 (h0:w0.heap.size<=W1.heap.size) (hL:L<W1.heap.size) (hR:∀t f c w,σR.F t f c w->∀k,f k->k<W1.heap.size) (h:RSt C w0 σR ids ρ1 lo aM L W1 σ1 rec xs P t fx cx w) (hb:Below 0 w w') (hs:∀k,fx k->w'.heap[k]?=w.heap[k]?):
 RSt C w0 σR ids ρ1 lo aM L W1 σ1 rec xs P t fx cx w':=by
 obtain⟨i,vo,Sx,st,pe,V,own,hv,e1,e2,e3,e4,e5,e6,e7,e8,e9,e10⟩:=h.ex;refine⟨λk hk=>xG (h.lt k hk) hb.size,h.sub,h.old,i,vo,Sx,st,pe,V,own,hv,e1,e2,?_,e4,e5,(hs L (h.old L hL)).trans e6,e7,e8,e9,e10⟩;exact e3.keep (X:=fx) hb hs (λk hk=>h.old k (by omega)) e7 e8 e9 (λt f c hf k hk=>h.old k (hR _ _ _ _ hf.F k hk))
def Im.noM_m {V:Im}{k:Nat}{v:List (Value×Value)}(h:V.noM.m k=some v):V.m k=some v/\v≠dw:=by
 simp only[Im.noM] at h;split at h
 .cases h
 .rename_i aB;exact⟨h,λe=>aB (by rw[h,e])⟩
structure SegL (L:Nat) (V:Im) (own:Nat->Option Nat) (w:World) (V':Im) (own':Nat->Option Nat) (w':World):Prop where
 le:V.le V'
 below:Below 0 w w'
 same:∀k,k<w.heap.size->own k=none->k≠L->w'.heap[k]?=w.heap[k]?
 ow:∀k j,own' k=some j->(∃i,own k=some i)\/w.heap.size<=k
 imm:∀k,((∃o x,V'.c k o=some x)\/∃x,V'.m k=some x)->(∃o x,V.c k o=some x)\/(∃x,V.m k=some x)\/(∃i,own k=some i)\/w.heap.size<=k
def aew (w:World)(L:Nat)(o:Obj):Below 0 w (w.putObj L o):=⟨rfl,rfl,rfl,by simp,λk hk=>by omega⟩
def Seg.round {L:Nat}{V' V'':Im}{own' ael:Nat->Option Nat}{w' lO:World}{o o':Obj}(h:Seg V own w V' own' w')(k:Seg V' own' (w'.putObj L o) V'' ael lO):SegL L V own w V'' ael (lO.putObj L o'):=by
 have aH:=h.below.size;have Rm:=k.below.size;simp only[World.putObj_size] at Rm;refine⟨h.le.trans k.le,h.below.trans ((aew _ _ _).trans (k.below.trans (aew _ _ _))),λq hq ho hL=>?_,λq j e=>?_,λq e=>?_⟩
 .have h1:own' q=none:=by
   cases e:own' q with
   |none=>rfl
   |some j=>
    rcases h.ow q j e with⟨i,e⟩|e
    .rw[ho] at e;cases e
    .omega
  rw[World.putObj_heap_other hL,k.same q (by simp;omega) h1,World.putObj_heap_other hL,h.same q hq ho]
 .rcases k.ow q j e with⟨i,e⟩|e
  .exact h.ow q i e
  .simp only[World.putObj_size] at e;exact .inr (by omega)
 .rcases k.imm q e with e|e|⟨i,e⟩|e
  .exact h.imm q (.inl e)
  .exact h.imm q (.inr e)
  .rcases h.ow q i e with e|e
   .exact .inr (.inr (.inl e))
   .exact .inr (.inr (.inr e))
  .simp only[World.putObj_size] at e;exact .inr (.inr (.inr (by omega)))
def Env.put_self (O:Env)(lo:List Nat):O.put [] [] lo (lo.map O.o)=O:=by
 have h2:∀u,putL O.o lo (lo.map O.o) u=O.o u:=λu=>by rw[uO];split<;>rfl
 show Env.mk O.r (putL O.o lo (lo.map O.o))=O;rw[funext h2]
def atj {N:Nat}(jG:la C Z){g:Operand}{ps:Array Tmp}{ca cb:Code}(bO:xI C Z fn s n ids R N ca)(fg:xI C Z fn s n ids R N cb):xI C Z fn s n ids R N (.rangeFunc g ps ca cb):=by
 intro rm S r hr rd w0 σ0 wr O x a w iw hC hY jm hn hg he;simp only[comp] at hr;split at hr
 case h_2=>cases hr;exact absurd he (nR _ _ _ _)
 rename_i aa rr e nD hu;split at hr
 case h_2=>cases hr;exact absurd he (nR _ _ _ _)
 rename_i ys uy;split at hr
 case h_2=>cases hr;exact absurd he (nR _ _ _ _)
 rename_i q hq;rw[qh] at hr;split at hr
 case isFalse=>cases hr;exact absurd he (nR _ _ _ _)
 rename_i yi;cases hr;simp only[aq] at yi;obtain⟨⟨⟨hl,bn⟩,ah⟩,yH⟩:=yi;have hl:=aA hl;have yH:=lg yH;obtain⟨hrd,lu⟩:=iw rfl;subst hrd;obtain⟨hs,BA,_⟩:=FA (C:=C) (w0:=w0) (σ0:=σ0) (ids:=ids) 8 hq;simp only[aw] at hs;obtain⟨ra,Ra,hs⟩:=hs;split at hs
 case h_2=>cases hs
 rename_i S1 hao Z3;simp only[aC] at hs;obtain⟨rb,hrb,kg⟩:=hs;have hma:=vE ca Ra;have hmb:=vE cb hrb;obtain⟨q1,q2⟩:=q;simp only at Ra kg yH BA he ⊢;generalize yx:ab8 ids (q1::q2.ex.map (·.2)) q2.mo=lo at he;generalize wh:((pS du q2.ex none).bind λM=>zw C fn s (M.st ids))=rt at he;have E9:∃f caps d,e.ev O=.clo f caps/\Z f caps=some d/\lX (q2.pc.ev Z N) (O.setR n d) ps.toList lo rt d.l (lo.map O.o)=some x:=by
  simp only[PC.ev,PI.runs,PI.run,holds,List.all_nil,zyx] at he;cases bX:e.ev O with
  |clo f caps=>
   rw[bX] at he;simp only[PE.evs,tG] at he;cases hΦ:Z f caps with
   |none=>rw[hΦ] at he;simp at he
   |some d=>
    rw[hΦ] at he;simp only[lU,lh,PE.ev,Env.setR,aO] at he;exact⟨f,caps,d,rfl,hΦ,he⟩
  |_=>rw[bX] at he;simp at he
 obtain⟨f,caps,d,bX,hΦ,he⟩:=E9;obtain⟨V,own,hv,i⟩:=hg;have hx:=cQ (gs:=[]) i hC rfl hu;rw[bX] at hx;generalize Qt:a.eval g=gv at hx;generalize bj:Ty.fn aa rr=ty at hx;cases hx with
 |fn f cs vs ds fH h1 h2 aI=>
 cases bj;obtain⟨hfn,anv⟩:=jG f cs ys fH uy;obtain⟨xs,rfl,aCk,Qw⟩:=anv caps d hΦ;simp only[D.l_list] at he;obtain⟨m,nU,hm,uu,KY,jf⟩:=YV he;have iq0:=aby 8 hq i
 have iq:Inv C (q1.st ids) (O.setR n (.list xs)) V own hv w0 σ0 (λ_=>False) a w:=by
  refine iq0.env (Snap.noOpt _ _) (λt ht=>?_) (λ_ _=>rfl);have ah:t<q1.rs.length:=by
   refine XQ λhle=>?_;simp only[Snap.st,aN,tB hle,Option.getD_none,db,isNone] at ht;cases ht
  simp[Env.setR,bt _ _ (show t≠n by omega)]
 obtain⟨ρ1,hρ1⟩:∃ρ1,O.setR n (.list xs)=ρ1:=⟨_,rfl⟩
 rw[hρ1] at he iq KY jf;have kQ:O.o=ρ1.o:=by rw[<-hρ1];rfl
 rw[kQ] at uu;refine wpIn_rangeFunc ?_;intro PO aB0;obtain⟨L,ZR⟩:∃L,w.heap.size+1=L:=⟨_,rfl⟩
 obtain⟨rec,ga⟩:∃rec:LoopState->Option Code->Loop,rec=λst pe=>{state:=st,pending:=pe,fn:=PO,tmps:=a.tmps,params:=ps,assign:=ca,body:=cb,defers:=w.heap.size}:=⟨_,rfl⟩
 have i1:=iq.enter (rec .ready none);obtain⟨t,fx0,cx0,aak,Rn⟩:=iq.frame;have ang:=σ0.lt _ _ _ _ aak.F;have Qr:=FrOK.enter iq aak (rec .ready none);have aCi:=iq.below.size;have Kg:Free L (V.mark w.heap.size) own:=by
  refine⟨?_,λo=>?_,?_⟩
  .cases e:own L with
   |none=>rfl
   |some j=>have:=(iq.owns L j e).2.1;omega
  .cases e:V.c L o with
   |none=>exact e
   |some x=>have:=iq.lt e;omega
  .simp only[Im.mark,show L≠w.heap.size by omega,if_false];cases e:V.m L with
   |none=>rfl
   |some x=>have:=iq.ltm e;omega
 have mP:V.le (V.mark w.heap.size):=by
  refine⟨λ_ _ _ e=>e,λk x e=>?_⟩;have:k≠w.heap.size:=by have:=iq.ltm e;omega
  simp[Im.mark,this,e]
 have ZO:((w.alloc (.deferred (some []))).alloc (.loop (rec .ready none))).heap[L]?=some (.loop (rec .ready none)):=by
  have:=World.alloc_heap_new (w.alloc (.deferred (some []))) (.loop (rec .ready none));rw[World.size_alloc,ZR] at this;exact this
 obtain⟨W1,pA⟩:∃W1,(w.alloc (.deferred (some []))).alloc (.loop (rec .ready none))=W1:=⟨_,rfl⟩
 have aBR:W1.heap.size=w.heap.size+2:=by rw[<-pA];simp
 rw[pA] at i1 Qr ZO;have Qq:(Instr.enterLoop PO a.tmps ps ca cb none).run C.P w=.ok (L,[{target:=.collected w.heap.size,args:=#[]}]) W1:=by
  rw[<-pA,ga,<-ZR];exact run_enterLoop_outer _ _ _ _ _
 obtain⟨σ1,hσ1⟩:∃σ1,V.mark w.heap.size=σ1:=⟨_,rfl⟩
 rw[hσ1] at i1 Qr Kg mP;obtain⟨aM,Qc⟩:∃aM:Act,{a with defers:={target:=.collected w.heap.size,args:=#[]}::a.defers}=aM:=⟨_,rfl⟩
 have Et:aM.tmps=a.tmps:=by rw[<-Qc]
 rw[Qc] at i1;have iR:=i1.toRnd (t:=t) (X:=λk=>k=L) Rn;obtain⟨σR,hσR⟩:∃σR,σ0.rnd σ1 own W1 t (λk=>k=L)=σR:=⟨_,rfl⟩
 have vN:∀t' f c w',σR.F t' f c w'->(∀k,f k->k<W1.heap.size/\k≠L)/\∀k,c k->f k/\(∀o,σ1.c k o=none)/\σ1.m k=none:=by
  rw[<-hσR];rintro t' f c w' ⟨_,h2,h3,_⟩;exact⟨λk hk=>⟨((h2 k).1 hk).1,((h2 k).1 hk).2.2.2⟩,λk hk=>(h3 k).1 hk⟩
 have ZV:CtxOK C σR:=by rw[<-hσR];exact hC.mono i1.le
 rw[hσR] at iR
 obtain⟨P,hP⟩:∃P:Nat->List D->Snap->LoopState->Option Code->Prop,P=λi vo Sx st pe=>(i<=m/\vo=nU i/\Sx=q1/\st=.ready/\pe=none)\/
  (i=m+1/\m<xs.length/\st=.done/\∃y id O',xs[m]?=some y/\q2.pc.ev Z N (ρ1.put ps.toList (partsOf ps.toList y) lo (nU m))=some (.exit id O')/\vo=lo.map O'.o/\(id,Sx)∈q2.ex/\((id≠du/\pe=some (.exit id))\/(id=du/\pe=some .ret))):=⟨_,rfl⟩
 obtain⟨c1,c2⟩:=ati (C:=C) (w:=W1) (L:=L) hfn Qt;refine⟨L,[{target:=.collected w.heap.size,args:=#[]}],W1,_,W1,f,_,W1,Qq,c1,λ_ _=>trivial,c2,(λe=>by cases e),?_⟩
 refine Yr ((Qw σ1 W1 (.func (.yield L) #[] #[]) vs (RSt C w0 σR ids ρ1 lo aM L W1 σ1 rec xs P) (λk=>k<W1.heap.size) (λk=>(∃j,own k=some j)\/k=L) m i1.ok (hC.mono i1.le) ⟨h1,h2,λj t e=>(aI j t e).mono mP⟩ hm
  (λt f c w h=>h.lt) (λt f c w h=>h.sub) (λt f c w w' h hb hs=>h.keep (by omega) (by omega) (λt f c w hF k hk=>((vN t f c w hF).1 k hk).1) hb hs) ?_ ?_ ?_ ?_).mono ?_)
 .refine⟨λk hk=>hk,λk hk=>?_,λk hk=>hk,0,nU 0,q1,.ready,none,σ1,own,hv,by simp,by rw[hP];exact .inl ⟨pf _,rfl,rfl,rfl,rfl⟩,?_,.refl σ1,Kg,ZO,λk j e=>(iR.owns k j e).2.1,λk o x e=>iR.lt e,λk x e=>iR.ltm e,λk=>.rfl⟩
  .rcases hk with⟨j,e⟩|e
   .exact(iR.owns k j e).2.1
   .show k<W1.heap.size;omega
  .rw[uu,Env.put_self];exact iR
 .rintro k o x e (⟨j,hj⟩|rfl)
  .have:=(iR.owns k j hj).2.2.1 o;rw[e] at this;cases this
  .rw[Kg.c] at e;cases e
 .rintro k x e (⟨j,hj⟩|rfl)
  .have:=(iR.owns k j hj).2.2.2;rw[e] at this;cases this
  .rw[Kg.m] at e;cases e
 .intro i fx cx w1 σx args ds' hi eE hF hσx jI l5 Bv dD dp rd' o a' x' aa ts K Q bT cO Z1 hK;have aB1:i<xs.length:=(eV.1 eE).1;obtain⟨i',vo,Sx,st,pe,σa,za,hva,e1,e2,iA,KR,Ep,Kh,QS,Z7,EY,Bw⟩:=hF.ex;have hii:i'=i:=by
   have h9:=congrArg List.length (congrArg D.l e1);simp only[D.l_list,dv] at h9;omega
  subst hii;rw[hP] at e2;rcases e2 with⟨_,rfl,Er,rfl,rfl⟩|⟨e2,_⟩
  case inr=>omega
  rw[Er] at iA;have ZS:L<w1.heap.size:=hF.lt L (hF.old L (by omega));have Ky:cx L:=(Bw L).2 (.inr rfl)
  have anW:∀k o v,σx.c k o=some v->za k=none:=λk o v e=>by
   cases e2:za k with
   |none=>rfl
   |some j=>exact absurd ((Bw k).2 (.inl ⟨j,e2⟩)) (l5 k o v e)
  have E2:∀k v,σx.m k=some v->za k=none:=λk v e=>by
   cases e2:za k with
   |none=>rfl
   |some j=>exact absurd ((Bw k).2 (.inl ⟨j,e2⟩)) (Bv k v e)
  have hτok:σx.noM.ok w1:=⟨hσx.c,λk v e=>hσx.m k v (Im.noM_m e).1⟩
  have iB:=iA.joinIm (τ:=σx.noM) hτok (λk e=>(Im.noM_m e).2 rfl) anW (λk v e=>E2 k v (Im.noM_m e).1)
   (λk o v e=>(dD k o v e).imp (λe=>KR.c k o v e) λe=>by omega) (λk v e=>(dp k v (Im.noM_m e).1).imp (λe=>KR.m k v e) λe=>by omega)
   (λt' f c hf=>⟨λk o v e hc=>by
        obtain⟨g1,g2,g3⟩:=(vN _ _ _ _ hf.F).2 k hc;rcases dD k o v e with e|e
        .rw[g2 o] at e;cases e
        .have:=((vN _ _ _ _ hf.F).1 k g1).1;omega,λk v e hc=>by
        obtain⟨g1,g2,g3⟩:=(vN _ _ _ _ hf.F).2 k hc;rcases dp k v (Im.noM_m e).1 with e|e
        .rw[g3] at e;cases e
        .have:=((vN _ _ _ _ hf.F).1 k g1).1;omega⟩)
  have ZK:Free L (σa.plus σx.noM) za:=by
   refine⟨Ep.own,λo=>?_,?_⟩
   .cases e:(σa.plus σx.noM).c L o with
    |none=>rfl
    |some v=>
     rcases Im.plus_c e with e|e
     .rw[Ep.c] at e;cases e
     .exact absurd Ky (l5 L o v e)
   .cases e:(σa.plus σx.noM).m L with
    |none=>rfl
    |some v=>
     rcases Im.plus_m e with e|e
     .rw[Ep.m] at e;cases e
     .exact absurd Ky (Bv L v (Im.noM_m e).1)
  have ur:ps.toList.length=ys.length:=by rw[tu];exact hl.symm
  have amG:rE C (σa.plus σx.noM) ys args ds':=⟨jI.1,jI.2.1,λj t e=>((jI.2.2 j t e).noM).mono (Im.plus_le2 iA.ok hτok)⟩
  have iC:=iB.startR (O':=ρ1) ur bn (λp hp=>by
   have:=bJ.1 ah p hp;rw[Et,hn];simpa [jB] using this) amG rfl
  have Q5:∃xi,q2.pc.ev Z N (ρ1.put ps.toList (partsOf ps.toList (.tup ds')) lo (nU i'))=some xi/\((i'<m/\∃O',xi=.next O'/\lo.map O'.o=nU (i'+1))\/(i'=m/\m<xs.length/\∃id O',xi=.exit id O')):=by
   by_cases ma:i'<m
   .obtain⟨y,O',g1,g2,g3⟩:=KY i' ma;rw[eE] at g1;cases g1;exact⟨_,g2,.inl ⟨ma,O',rfl,g3⟩⟩
   .obtain rfl:i'=m:=by omega
    rcases jf with⟨g1,_⟩|⟨g1,y,id,O',g2,g3,_⟩
    .omega
    .rw[eE] at g2;cases g2;exact⟨_,g3,.inr ⟨rfl,g1,id,O',rfl⟩⟩
  obtain⟨xi,uw,RB⟩:=Q5;have ae:q2.pc=.seq ra.pc rb.pc:=by rw[<-kg];rfl
  rw[ae] at uw;have aH:(nP ps.toList args aM.tmps).size=n:=by rw[agf,Et,hn]
  refine⟨λ_ _=>trivial,?_⟩;rw[Oper.semAt_eq _ _ _ (λc e=>by rw[bT] at e;cases e)];have amI:aa.size=ps.size:=by
   have:=jI.1;rw[<-Z1,gp,tu] at this;omega
  have ao:=axK (C:=C) bT cO Kh (by rw[ga];exact amI);have aoo:(rec .ready none).fn=PO/\(rec .ready none).tmps=a.tmps/\(rec .ready none).params=ps/\(rec .ready none).assign=ca/\(rec .ready none).body=cb:=by rw[ga];exact⟨rfl,rfl,rfl,rfl,rfl⟩
  obtain⟨r1,r2,r3,r4,r5⟩:=aoo;rw[r1,r2,r3,r4,r5] at ao
  have lz:(ps.zip (aa.map a'.eval)).foldl (λtmps (t,v)=>tmps.setIfInBounds t v) a.tmps=nP ps.toList args aM.tmps:=by
   rw[Et,<-Z1,<-xy];exact auj ps (aa.map a'.eval) a.tmps
  rw[lz] at ao;rw[ao];refine⟨(λe=>by cases e),?_⟩;refine roundIn_of_wpIn (F:=FR rd') trivial ?_;show ca.wpIn (FR (some L)) 0 C.P _ _ _;cases kS:ra.pc.ev Z N (ρ1.put ps.toList (partsOf ps.toList (.tup ds')) lo (nU i')) with
  |none=>simp only[PC.ev,kS] at uw;cases uw
  |some xa=>
  refine wpIn_mono (af7 bO Ra nD ZV iC (wr:=λt=>t∈cT ca) (λ_ h=>h) aH kS L) λe2 a1 Xp aox=>?_;obtain⟨ρ2,S2,σ2,jS,jk,iD,kj,gz,lx⟩:=aox;cases e2 with
  |normal=>
   obtain⟨rfl,vO⟩:=lx;rw[hao] at vO;cases vO;simp only[PC.ev,kS] at uw;have ZP:Xp.heap[L]?=some (.loop (rec .ready none)):=(kj.same L ZS ZK.own).trans Kh;have P7:=ZK.seg ZS kj;have P8:L<Xp.heap.size:=(dV.1 ZP).1;have ZN:w0.heap.size<=L:=by omega
   refine⟨_,run_beginRound ZP (by rw[ga]),?_⟩;have iE:=iD.putL ZN P7 (λt' f c hf EK=>((vN _ _ _ _ hf.F).1 L EK).2 rfl) (.loop {rec .ready none with state:=.busy});have hL3:(Xp.putObj L (.loop {rec .ready none with state:=.busy})).heap[L]?=some (.loop {rec .ready none with state:=.busy}):=World.putObj_heap_same P8;show cb.wpIn (FR (some L)) 0 C.P _ _ _;refine wpIn_mono (af7 fg hrb nD ZV iE (wr:=λt=>t∈cT cb) (λ_ h=>h) (gz.size.trans aH) uw L) λe3 a3 w3 aoy=>?_;obtain⟨ρ3,S3,σ3,y9,Fp,iF,pM,aow,pG⟩:=aoy;have ZQ:w3.heap[L]?=some (.loop {rec .ready none with state:=.busy}):=(pM.same L (by simpa using P8) P7.own).trans hL3;have ZJ:=P7.seg (by simpa using P8) pM;have amn:L<w3.heap.size:=(dV.1 ZQ).1;obtain⟨mk,KV⟩:∃mk,Nat.lor (y2 (ps.toList++cT ca++cT cb)) (Nat.lor ra.mr rb.mr)=mk:=⟨_,rfl⟩
   have anQ:∀t,ay mk t=false->t∉ps.toList/\t∉cT ca/\t∉cT cb/\ay ra.mr t=false/\ay rb.mr t=false:=by
        intro t ht;rw[<-KV,gu,gu,XB,XB] at ht;obtain⟨t1,t2,t3⟩:=ht;have:t∉ps.toList++cT ca++cT cb:=λhm=>by rw[Yg hm] at t1;cases t1
        simp only[dm,not_or] at this;exact⟨this.1.1,this.1.2,this.2,t2,t3⟩
   have Rb:∀t,ay mk t=false->aM.tmps.getD t undef=a3.tmps.getD t undef/\(ρ1.put [] [] lo (lo.map ρ3.o)).r t=ρ3.r t:=by
        intro t ht;obtain⟨t1,t2,t3,t4,t5⟩:=anQ t ht;refine⟨?_,?_⟩
        .rw[aow.get t t3,gz.get t t2];exact(Nd _ _ _ _ t1).symm
        .have fV:∀O',xi=.next O'\/(∃id,xi=.exit id O')->O'.r t=ρ2.r t:=λO' h=>by
          have yk:xi.env?=some O':=by rcases h with h|⟨id,h⟩<;>rw[h]<;>rfl
          exact(PC.ev_but rb.pc _ _ O' uw yk).r t λhm=>by rw[hmb.1 t hm] at t5;cases t5
         have bC:ρ2.r t=putL ρ1.r ps.toList (partsOf ps.toList (.tup ds')) t:=(PC.ev_but ra.pc _ _ ρ2 kS rfl).r t λhm=>by rw[hma.1 t hm] at t4;cases t4
         rw[Ct _ _ _ _ t1] at bC;show ρ1.r t=ρ3.r t;rw[fV ρ3 (by
          cases e3 with
          |normal=>exact .inl pG.1
          |exit id=>exact .inr ⟨id,pG.1⟩
          |ret=>exact .inr ⟨_,pG.1⟩
          |_=>exact pG.elim),bC]
   have QI:q2.mo=kA ra.mo rb.mo:=by rw[<-kg];rfl
   have QU:∀j,j∉q2.mo->ρ3.o j=ρ1.o j:=by
        intro j hj;rw[QI,qZ,not_or] at hj;have yk:xi.env?=some ρ3:=by
         cases e3 with
         |normal=>rw[pG.1];rfl
         |exit id=>rw[pG.1];rfl
         |ret=>rw[pG.1];rfl
         |_=>exact pG.elim
        rw[(PC.ev_but rb.pc _ _ ρ3 uw yk).o j λhm=>hj.2 (hmb.2 j hm),(PC.ev_but ra.pc _ _ ρ2 kS rfl).o j λhm=>hj.1 (hma.2 j hm)]
        exact Ct _ _ _ _ λhm=>by
         rw[<-yx] at hm;have:=(eW.1 hm).1;rw[QI,qZ] at this;exact this.elim hj.1 hj.2
   have QT:∀(S:Snap),S∈(q1::q2.ex.map (·.2))->∀j,pP ((S.st ids).o j)=false->(ρ1.put [] [] lo (lo.map ρ3.o)).o j=ρ3.o j:=by
        intro S hS j hj;show putL ρ1.o lo (lo.map ρ3.o) j=ρ3.o j;rw[uO];split
        .rfl
        .rename_i fX;refine(QU j λvX=>fX ?_).symm;rw[<-yx];exact eW.2 ⟨vX,tz.2 ⟨S,hS,by simpa [Snap.st] using hj⟩⟩
   have fin:∀(jump:Option Code) (Sx:Snap),Inv C (Sx.st ids) (ρ1.put [] [] lo (lo.map ρ3.o)) σ3 y9 Fp w0 σR (λ_=>False) aM w3->P (i'+1) (lo.map ρ3.o) Sx (if jump.isNone then .ready else .done) jump->jump.isNone=decide (i'<m)->
        ∃v w',(Instr.endRound L jump).run C.P w3=.ok v w'/\K (a'.put o.dst v) w':=by
        intro jump Sx iG hPn vX;refine⟨_,_,run_endRound jump ZQ,?_⟩;have aon:({{rec .ready none with state:=.busy} with state:=if jump.isNone then .ready else .done,pending:=jump}:Loop)=rec (if jump.isNone then .ready else .done) jump:=by rw[ga]
        rw[aon];have aI:=kj.round (L:=L) (o':=.loop (rec (if jump.isNone then .ready else .done) jump)) pM;have iH:=iG.putL ZN ZJ (λt' f c hf EK=>((vN _ _ _ _ hf.F).1 L EK).2 rfl) (.loop (rec (if jump.isNone then .ready else .done) jump));obtain⟨w4,Rx⟩:∃w4,w3.putObj L (.loop (rec (if jump.isNone then .ready else .done) jump))=w4:=⟨_,rfl⟩
        have hL5:w4.heap[L]?=some (.loop (rec (if jump.isNone then .ready else .done) jump)):=by rw[<-Rx];exact World.putObj_heap_same amn
        have aCn:w4.heap.size=w3.heap.size:=by rw[<-Rx];simp
        rw[Rx] at aI iH ⊢;have aBQ:W1.heap.size<=w1.heap.size:=by
         have:=hF.lt (W1.heap.size-1) (hF.old _ (by omega));omega
        have aCj:=aI.below.size
        refine hK _ _ ⟨by rw[vX],aI.below,λk hk hc=>aI.same k hk (by
         cases e:za k with
         |none=>rfl
         |some j=>exact absurd ((Bw k).2 (.inl ⟨j,e⟩)) hc) (λe=>hc (by rw[e];exact Ky)),(λk=>k<w4.heap.size/\(k<W1.heap.size\/(∃j,y9 k=some j)\/(∃o x,σ3.c k o=some x)\/∃x,σ3.m k=some x)),(λk=>(∃j,y9 k=some j)\/k=L),?_,?_,?_⟩
        .refine⟨λk hk=>hk.1,λk hk=>?_,λk hk=>⟨by omega,.inl hk⟩,i'+1,lo.map ρ3.o,Sx,_,jump,σ3,y9,Fp,rfl,hPn,iH,KR.trans ((Im.plus_le1 _ _).trans aI.le),ZJ,hL5,λk j e=>⟨(iH.owns k j e).2.1,.inr (.inl ⟨j,e⟩)⟩,λk o x e=>⟨iH.lt e,.inr (.inr (.inl ⟨o,x,e⟩))⟩,λk x e=>⟨iH.ltm e,.inr (.inr (.inr ⟨x,e⟩))⟩,λk=>.rfl⟩;rcases hk with⟨j,e⟩|e
         .exact⟨(iH.owns k j e).2.1,.inr (.inl ⟨j,e⟩)⟩
         .exact⟨by omega,.inl (by omega)⟩
        .rintro k ⟨_,hk⟩ bW
         have ER:((∃o x,σ3.c k o=some x)\/∃x,σ3.m k=some x)->fx k\/(∃o x,σx.c k o=some x)\/(∃x,σx.m k=some x/\x≠dw):=λh=>by
          rcases aI.imm k h with⟨o,x,e⟩|⟨x,e⟩|⟨j,e⟩|e
          .rcases Im.plus_c e with e|e
           .exact .inl (Z7 k o x e)
           .exact .inr (.inl ⟨o,x,e⟩)
          .rcases Im.plus_m e with e|e
           .exact .inl (EY k x e)
           .exact .inr (.inr ⟨x,(Im.noM_m e).1,(Im.noM_m e).2⟩)
          .exact .inl (QS k j e)
          .omega
         rcases hk with hk|⟨j,e⟩|e|e
         .exact .inl (hF.old k hk)
         .rcases aI.ow k j e with⟨j',e⟩|e
          .exact .inl (QS k j' e)
          .omega
         .exact ER (.inl e)
         .exact ER (.inr e)
        .rintro k (⟨j,e⟩|e) bW
         .rcases aI.ow k j e with⟨j',e⟩|e
          .exact(Bw k).2 (.inl ⟨j',e⟩)
          .omega
         .rw[e];exact Ky
   have pC:lR σ3 w0.heap.size aM.defers:=iA.defers.mono ((Im.plus_le1 _ _).trans (kj.le.trans pM.le));have Q6:q2.out=rb.out.map (Snap.mask mk)/\q2.ex=rb.ex.map (λx=>(x.1,x.2.mask mk)):=by rw[<-kg,<-KV];exact⟨rfl,rfl⟩
   cases e3 with
   |normal=>
    obtain⟨e4,e5⟩:=pG;have hT:q2.out=some (S3.mask mk):=by rw[Q6.1,e5];rfl
    have aal:=BA _ hT
    have iG:Inv C (q1.st ids) ρ3 σ3 y9 Fp w0 σR (λ_=>False) a3 w3:=by
        have:=Snap.meet_ok2 (x:=q1) (iF.maskR mk)
        rwa [aal] at this
    have iH:=iG.restore (O':=ρ1.put [] [] lo (lo.map ρ3.o)) (a':=aM) (Snap.noOpt _ _) pC (λt ht=>Rb t (by
        cases e:ay mk t with
        |false=>rfl
        |true=>
         have h9:=aqT (x:=q1) (S:=S3) (ids:=ids) e;rw[aal] at h9;rw[h9] at ht;cases ht)) (λj hj=>QT q1 (er ..) j hj)
    rcases RB with⟨ma,O',e6,e7⟩|⟨_,_,id,O',e6⟩
    .rw[e4] at e6;cases e6;exact fin none q1 iH (by rw[hP];exact .inl ⟨by omega,e7,rfl,rfl,rfl⟩) (by simp[ma])
    .rw[e4] at e6;cases e6
   |exit id=>
    obtain⟨e4,e5,e6⟩:=pG;have cL:(id,S3.mask mk)∈q2.ex:=by rw[Q6.2];exact dX.2 ⟨_,e6,rfl⟩
    have iH:=(iF.maskR mk).restore (O':=ρ1.put [] [] lo (lo.map ρ3.o)) (a':=aM) (Snap.noOpt _ _) pC (λt ht=>Rb t (by
        cases e:ay mk t with
        |false=>rfl
        |true=>rw[FJ,if_pos e] at ht;cases ht)) (λj hj=>QT (S3.mask mk) (dW _ (dX.2 ⟨_,cL,rfl⟩)) j hj)
    rcases RB with⟨ma,O',e7,_⟩|⟨ma,oC,cA,O',e7⟩
    .rw[e4] at e7;cases e7
    .subst ma;refine fin (some (.exit id)) (S3.mask mk) iH ?_ (by simp);rw[hP];refine .inr ⟨rfl,oC,rfl,_,id,ρ3,eE,?_,rfl,cL,.inl ⟨e5,rfl⟩⟩;rw[ae];simp only[PC.ev,kS];rw[uw,e4]
   |ret=>
    obtain⟨e4,e6⟩:=pG;have cL:(du,S3.mask mk)∈q2.ex:=by rw[Q6.2];exact dX.2 ⟨_,e6,rfl⟩
    have iH:=(iF.maskR mk).restore (O':=ρ1.put [] [] lo (lo.map ρ3.o)) (a':=aM) (Snap.noOpt _ _) pC (λt ht=>Rb t (by
        cases e:ay mk t with
        |false=>rfl
        |true=>rw[FJ,if_pos e] at ht;cases ht)) (λj hj=>QT (S3.mask mk) (dW _ (dX.2 ⟨_,cL,rfl⟩)) j hj)
    rcases RB with⟨ma,O',e7,_⟩|⟨ma,oC,cA,O',e7⟩
    .rw[e4] at e7;cases e7
    .subst ma;refine fin (some .ret) (S3.mask mk) iH ?_ (by simp);rw[hP];refine .inr ⟨rfl,oC,rfl,_,du,ρ3,eE,?_,rfl,cL,.inr ⟨rfl,rfl⟩⟩;rw[ae];simp only[PC.ev,kS];rw[uw,e4]
   |_=>exact pG.elim
  |exit id=>obtain⟨_,_,e6⟩:=lx;rw[Z3] at e6;cases e6
  |ret=>obtain⟨_,e6⟩:=lx;rw[Z3] at e6;cases e6
  |_=>exact lx.elim
 .rintro e' w' ⟨⟨v,rfl⟩,fx,cx,hF⟩;rw[show({tmps:=a.tmps,defers:=[{target:=Target.collected w.heap.size,args:=#[]}]++a.defers}:Act)=aM from Qc];obtain⟨i',vo,Sx,st,pe,σa,za,hva,e1,e2,iA,KR,Ep,Kh,QS,Z7,EY,Bw⟩:=hF.ex;have h9:=congrArg List.length (congrArg D.l e1);simp only[D.l_list,dv] at h9;have bZ:(rec st pe).state≠.busy:=by
   rw[hP] at e2;rw[ga];rcases e2 with⟨_,_,_,e3,_⟩|⟨_,_,e3,_⟩<;>(rw[e3];intro e;cases e)
  have v8:(rec st pe).pending=pe:=by rw[ga]
  have uh:(Instr.endLoop L).run C.P w'=.ok pe (w'.putObj L (.loop {rec st pe with state:=.exhausted})):=(run_endLoop (P:=C.P) Kh bZ).trans (congrArg (λz=>Result.ok z _) v8);have iF:=iA.putL (by omega:w0.heap.size<=L) Ep (λt' f c hf EK=>((vN _ _ _ _ hf.F).1 L EK).2 rfl) (.loop {rec st pe with state:=.exhausted});rw[<-hσR] at iF;have iG:=i1.ofRnd Qr (λk hk e=>by have:=ang k hk;omega) iF;have ki:SameBut wr a aM:=⟨by rw[Et],λt _=>by rw[Et]⟩
  refine⟨pe,_,uh,?_⟩;rw[hP] at e2;rcases e2 with⟨e3,rfl,Er,_,rfl⟩|⟨rfl,oC,_,y,id,O',g1,g2,rfl,g4,g5⟩
  .rcases jf with⟨g1,g2⟩|⟨g1,_⟩
   .obtain rfl:i'=m:=by omega
    rw[Er] at iG;exact⟨_,q1,g2,rfl,ki,_,_,_,iG⟩
   .omega
  .rcases jf with⟨g6,_⟩|⟨_,y',cA,O'',k1,k2,k3⟩
   .omega
   .rw[g1] at k1;cases k1;rw[g2] at k2;cases k2;rcases k3 with⟨k3,k4⟩|⟨k3,pe',k4,k5⟩
    .rcases g5 with⟨_,rfl⟩|⟨g5,_⟩
     .exact wpIn_exit ⟨_,Sx,k4,k3,eW.2 ⟨g4,by simp[fS k3]⟩,ki,_,_,_,iG⟩
     .exact absurd g5 k3
    .rcases g5 with⟨g5,_⟩|⟨_,rfl⟩
     .exact absurd k3 g5
     .subst k3;rw[<-wh,aw] at k4;obtain⟨M,hM,Fc⟩:=k4;obtain⟨M',ZT,uj⟩:=R2 (⟨_,_,_,iG⟩:Good C w0 σ0 (Sx.st ids) _ (λ_=>False) aM _) q2.ex none g4;rw[hM] at ZT;cases ZT;obtain⟨σm,aC7,hvm,im⟩:=uj;exact wpIn_ret ⟨_,k5,Inv.retD hC (λ_=>rfl) lu Fc _ im rfl,ki⟩
def ace {arr:Array MapEntry}{clock:Nat}(hb:nW arr clock){idx:List Nat}(hi:∀i,i∈idx->i<arr.size){i:Nat}{e:MapEntry}(he:arr[i]?=some e):(ia arr idx).contains e.born=true↔i∈idx:=by
 simp only[ia,List.contains_toArray,List.contains_iff_mem,dX];constructor
 .rintro⟨j,hj,h⟩;have ah:=hi j hj;rw[eT ah] at h;simp only at h;have:=hb.2 j i arr[j] e (eT ah) he h;rw[<-this];exact hj
 .intro h;exact⟨i,h,by rw[he]⟩
def aud (arr:Array MapEntry)(idx:List Nat){i:Nat}{e:MapEntry}(he:arr[i]?=some e):(ia arr idx).push e.born=ia arr (idx++[i]):=by
 simp[ia,he]
def arh {P:Program}{w:World}{k m:Nat}{arr:Array MapEntry}{clock:Nat}{idx:List Nat}(hk:w.heap[k]?=some (.mapIter (some m) clock (ia arr idx) clock))(hm:w.heap[m]?=some (.map arr clock))(hb:nW arr clock)(hi:∀i,i∈idx->i<arr.size)(T:TypeId):
 ∃w1:World,(w1=w\/w1=w.drew)/\(((∀i,i<arr.size->i∈idx)/\(Instr.next (.pointer (some ⟨k,0,none⟩)) false T).run P w=.ok (.tuple #[.bool false]) w1)\/
  ∃i e,arr[i]?=some e/\i∉idx/\(Instr.next (.pointer (some ⟨k,0,none⟩)) false T).run P w=.ok (.tuple #[.bool true,e.key,e.val]) {w1 with heap:=w1.heap.setIfInBounds k (.mapIter (some m) clock (ia arr (idx++[i])) clock)}):=by
 have cL:∀{e:MapEntry},e∈arr->∃i:Nat,arr[i]?=some e:=λhe=>by
  obtain⟨i,hi,rfl⟩:=Array.mem_iff_getElem.1 he;exact⟨i,eT hi⟩
 have hold:∀(l:Array MapEntry),(∀e,e∈l->e.born<clock)->l.filter (λx=>decide (x.born<clock))=l:=λl h=>by
  rw[Array.filter_eq_self];intro e he;simpa using h e he
 have mS:∀(l:Array MapEntry),(∀e,e∈l->e.born<clock)->l.filter (λx=>decide (x.born>=clock))=#[]:=λl h=>by
  rw[Array.filter_eq_empty_iff];intro e he;have:=h e he;simp;omega
 have Z4:∀e,e∈arr->e.born<clock:=λe he=>by obtain⟨i,hi⟩:=cL he;exact hb.1 i e hi
 have ls:(!(ia arr idx).isEmpty&& !arr.isEmpty&&arr.all (λx=>decide (x.born>=clock)))=false:=by
  cases ha:arr.isEmpty
  .have aB:arr.size≠0:=by simpa using ha
   have:arr.all (λx=>decide (x.born>=clock))=false:=by
        rw[XA];intro h;rw[Array.all_eq_true] at h;have h0:=h 0 (by omega);have h1:=Z4 arr[0] (Xx _);simp at h0;omega
   rw[this,HA]
  .simp
 let left:=arr.filter λe=> !(ia arr idx).contains e.born
 have hl:∀e,e∈left->e.born<clock:=λe he=>Z4 e (Xy.1 he).1;by_cases hz:left.size=0
 .refine⟨w,.inl rfl,.inl ⟨λi ah=>?_,?_⟩⟩
  .by_cases bp:i∈idx
   .exact bp
   .exfalso;have KT:arr[i]∈left:=Xy.2 ⟨Xx _,by
     have:=ace hb hi (eT ah);cases hc:(ia arr idx).contains arr[i].born with
     |false=>rfl
     |true=>exact absurd (this.1 hc) bp⟩
    have:left=#[]:=NM hz;rw[this] at KT;simp at KT
  .have he:left=#[]:=NM hz;have qF:arr.filter (λe=> !(ia arr idx).contains e.born)=#[]:=he;simp only[Instr.next,getObj,Sem.run_bind,Sem.run,hk,hm,Result.andThen_ok,ls,qF];simp[Question.forced,Sem.run]
 .have kL:left.filter (λx=>decide (x.born<clock))=left:=hold left hl;have l8:left.filter (λx=>decide (x.born>=clock))=#[]:=mS left hl;have hem:left.isEmpty=false:=by simpa using hz
  have key:∀c,c<left.size->∃i e,arr[i]?=some e/\i∉idx/\left[c]?=some e:=λc hc=>by
   have KT:left[c]∈left:=Xx _;obtain⟨h1,h2⟩:=Xy.1 KT;obtain⟨i,cN⟩:=cL h1;refine⟨i,left[c],cN,λbp=>?_,eT hc⟩;rw[(ace hb hi cN).2 bp] at h2;cases h2
  obtain⟨w1,c,eN,hc,l6⟩:∃w1 c,(w1=w\/w1=w.drew)/\c<left.size/\(choose (.mapNext left.size)).run P w=.ok c w1:=by
   by_cases h1:left.size<=1
   .exact⟨w,0,.inl rfl,by omega,by simp[Question.forced,h1]⟩
   .exact⟨w.drew,_,.inr rfl,Nat.mod_lt _ (by omega),by simp[Question.forced,h1,Question.cut];rfl⟩
  obtain⟨i,e,h1,h2,h3⟩:=key c hc;refine⟨w1,eN,.inr ⟨i,e,h1,h2,?_⟩⟩;have uo:arr.filter (λe=> !(ia arr idx).contains e.born)=left:=rfl;have qG:(getObj k).run P w=.ok (.mapIter (some m) clock (ia arr idx) clock) w:=by simp[getObj,Sem.run,hk]
  have dx:(getObj m).run P w=.ok (.map arr clock) w:=by simp[getObj,Sem.run,hm]
  have bW:w1.heap[k]?=some (.mapIter (some m) clock (ia arr idx) clock):=by rcases eN with rfl|rfl<;>exact hk
  have vT:(setObj k (.mapIter (some m) clock ((ia arr idx).push e.born) clock)).run P w1=.ok () {w1 with heap:=w1.heap.setIfInBounds k (.mapIter (some m) clock ((ia arr idx).push e.born) clock)}:=by simp[setObj,Sem.run,bW]
  have amN:((if false=true then #[none] else #[])++Array.map some (left++#[]):Array (Option MapEntry))=left.map some:=by simp
  have l5:(left.map some)[c]?=some (some e):=by simp[h3]
  have aao:∀(DD:Array (Option MapEntry)) (cc:Nat),(choose (.mapNext DD.size)).run P w=.ok cc w1->DD[cc]?=some (some e)->(do
        match DD[<-choose (.mapNext DD.size)]? with
        |some (some e)=>
         setObj k (.mapIter (some m) clock ((ia arr idx).push e.born) clock)
         pure (.tuple #[.bool true,e.key,e.val])
        |some none=>(pure (.tuple #[.bool false]):Sem Value)
        |none=>stuck "Next: no such candidate" :Sem Value).run P w=.ok (.tuple #[.bool true,e.key,e.val]) {w1 with heap:=w1.heap.setIfInBounds k (.mapIter (some m) clock ((ia arr idx).push e.born) clock)}:=by
   intro DD cc h4 h5;rw[Sem.run_bind,h4];simp only[Result.andThen_ok,h5];rw[Sem.run_bind,vT];rfl
  rw[aud arr idx h1] at aao vT;have:=aao (left.map some) c (by rw[Array.size_map];exact l6) l5;simp only[Instr.next];rw[Sem.run_bind,qG];simp only[Result.andThen_ok];rw[Sem.run_bind,dx];simp only[Result.andThen_ok,ls,uo,kL,l8,hem];rw[amN,if_neg (by decide)];exact this
def akp {P:Program}{w:World}{k m:Nat}{arr:Array MapEntry}{clock:Nat}{idx:List Nat}{i:Nat}{e:MapEntry}(hk:w.heap[k]?=some (.mapIter (some m) clock (ia arr (idx++[i])) clock))(hm:w.heap[m]?=some (.map arr clock))(hb:nW arr clock)(he:arr[i]?=some e):
 (Instr.entry (.pointer (some ⟨k,0,none⟩))).run P w=.ok (.tuple #[e.key,e.val]) w:=by
 have amK:(ia arr (idx++[i])).back?=some e.born:=by simp[ia,he]
 have EL:arr.find? (λx=>x.born==e.born)=some e:=by
  have ah:i<arr.size:=(dV.1 he).1;have hei:arr[i]=e:=(dV.1 he).2;rw[Array.find?_eq_some_iff_getElem];refine⟨by simp,i,ah,hei,λj hj=>?_⟩;have fX:j<arr.size:=by omega
  cases hc:(arr[j].born==e.born) with
  |false=>rfl
  |true=>
   have:=hb.2 j i arr[j] e (eT fX) he (by simpa using hc);omega
 simp[Instr.entry,getObj,Sem.run_bind,Sem.run,hk,hm,amK,EL]
def aqN {x y z:Code}{k:Nat}{p:MP}(h:B1 x y k z=some p):∃i1 i2 o1 o2 o3 l,x=.region i1 p.ops1 false/\y=.cond (.tmp p.mo) .skip (.exit p.out)/\z=.region i2 p.ops2 false/\p.next=k/\p.ops1.toList=[o1,o2]/\p.ops2.toList=o3::l/\
 o1.dst=some p.nx/\o1.guard=none/\o1.op=.next (.tmp p.it) false/\o2.dst=some p.mo/\o2.guard=none/\o2.op=.extract (.tmp p.nx) 0/\o3.dst=some p.pr/\o3.guard=none/\o3.op=.entry (.tmp p.it)/\mj p.pr l []=some p.aa/\
 p.it≠p.nx/\p.it≠p.mo/\p.it≠p.pr/\p.nx≠p.mo/\p.out≠du/\k≠du:=by
 unfold B1 at h;split at h
 case h_2=>cases h
 rename_i i1 ops1 mo out i2 ops2;split at h
 case h_2=>cases h
 rename_i o1 o2 o3 l e1 e2;split at h
 case h_2=>cases h
 rename_i nx it mo' nx' pr it' d1 g1 q1 d2 g2 q2 d3 g3 q3;rw[qh] at h;split at h
 case isFalse=>cases h
 rename_i hc;simp only[aC] at h;obtain⟨aa,h4,rfl⟩:=h;simp only[aq,iY] at hc;obtain⟨⟨⟨⟨⟨⟨⟨⟨c1,c2⟩,c3⟩,c4⟩,c5⟩,c6⟩,c7⟩,c8⟩,c9⟩:=hc;have ne:∀{a b:Nat},Nat.beq a b=false->a≠b:=λh e=>by subst e;simp at h
 obtain rfl:=aA c1;obtain rfl:=aA c2;obtain rfl:=aA c3;exact⟨i1,i2,o1,o2,o3,l,rfl,rfl,rfl,rfl,e1,e2,d1,g1,q1,d2,g2,q2,d3,g3,q3,h4,ne c4,ne c5,ne c6,ne c7,ne c8,ne c9⟩
def LV {pr:Nat}:∀(l:List Oper) {acc aa:List (Nat×Nat)},mj pr l acc=some aa->∀x,x∈acc->x∈aa
 |[],acc,aa,h,x,hx=>by simp only[mj,aS] at h;subst h;exact hx
 |o::l,acc,aa,h,x,hx=>by
  simp only[mj] at h;split at h
  case h_2=>cases h
  rw[qh] at h;split at h
  .cases h
  split at h
  .rw[qh] at h;split at h
   .exact LV l h x (kE _ hx)
   .cases h
  .simp only[aw] at h;obtain⟨i,_,h⟩:=h;exact LV l h x (kE _ hx)
  .simp only[aw] at h;obtain⟨i,_,h⟩:=h;exact LV l h x (kE _ hx)
  .cases h
def FH:∀{l:List (Nat×Nat)} {t i:Nat},wE l t=some i->(t,i)∈l
 |x::l,t,i,h=>by
  simp only[wE] at h;cases hb:Nat.beq x.1 t<;>simp only[hb,zyx,zyw] at h
  .exact dW _ (FH h)
  .cases h;have:=aA hb;subst this;exact er ..
def abZ:∀{l:List (Nat×Nat)} {t:Nat},(wE l t).isSome=false->∀x,x∈l->x.1≠t
 |y::l,t,h,x,hx=>by
  simp only[wE] at h;cases hb:Nat.beq y.1 t<;>simp only[hb,zyx,zyw] at h
  .rcases cZ.1 hx with e|hx
   .subst e;intro e;subst e;simp at hb
   .exact abZ h x hx
  .cases h
def SW {pr:Nat}:∀(l:List Oper) {acc aa:List (Nat×Nat)},mj pr l acc=some aa->(∀x,x∈acc->x.2<=1)->∀x,x∈aa->x∈acc\/(x.2<=1/\∃o,o∈l/\o.dst=some x.1)
 |[],acc,aa,h,_,x,hx=>by simp only[mj,aS] at h;subst h;exact .inl hx
 |o::l,acc,aa,h,ha,x,hx=>by
  simp only[mj] at h;split at h
  case h_2=>cases h
  rename_i d hd il;rw[qh] at h;split at h
  .cases h
  have go:∀(pt:Nat),pt<=1->mj pr l (acc++[(d,pt)])=some aa->x∈acc\/(x.2<=1/\∃o',o'∈o::l/\o'.dst=some x.1):=by
   intro pt wc hp
   rcases SW l hp (λy hy=>by
        rcases dm.1 hy with h|h
        .exact ha y h
        .simp at h;subst h;exact wc) x hx with h|⟨h1,o',h2,h3⟩
   .rcases dm.1 h with h|h
    .exact .inl h
    .simp at h;subst h;exact .inr ⟨wc,o,er ..,hd⟩
   .exact .inr ⟨h1,o',dW _ h2,h3⟩
  split at h
  .rw[qh] at h;split at h
   case isFalse=>cases h
   rename_i l5;simp only[aq] at l5;exact go _ (lg l5.2) h
  .simp only[aw] at h;obtain⟨i,hi,h⟩:=h;exact go i (ha _ (FH hi)) h
  .simp only[aw] at h;obtain⟨i,hi,h⟩:=h;exact go i (ha _ (FH hi)) h
  .cases h
def Cp {P:Program}{ops:Array Oper}{i:Nat}{rest:List Nat}{o:Oper}{rd:Option Nat}{a:Act}{w w':World}{Q:Exit->Act->World->Prop}{v:Value}(ho:ops[i]?=some o)(hg:o.guard=none)(bn:pU o.op=true)(hx:(execOp a.eval o).run P w=.ok (.value v) w')
 (k:wpOpsIn (FR rd) 0 P ops Q rest (a.put o.dst v) w'):wpOpsIn (FR rd) 0 P ops Q (i::rest) a w:=by
 simp only[wpOpsIn,ho];rw[if_pos (by simp[Region.wanted,hg])];exact aeh bn (by unfold Oper.wp;rw[hx];exact k)
def at6 {ops:Array Oper}{o:Oper}(ho:o∈ops.toList)(a:Act)(v:Value):SameBut (rU ops) a (a.put o.dst v):=by
 have:=SameBut.put a o.dst v a.defers;exact this.mono λt e=>⟨o,ho,e⟩
def Cu {a:Act}{d:Nat}{v:Value}(h:d<a.tmps.size):(a.put (some d) v).tmps.getD d undef=v:=by rw[zz];simp[h]
def L6 {a:Act}{d t:Nat}{v:Value}(h:t≠d):(a.put (some d) v).tmps.getD t undef=a.tmps.getD t undef:=by rw[zz];simp[h]
def put_defers (a:Act)(d:Option Nat)(v:Value):(a.put d v).defers=a.defers:=by cases d<;>rfl
def FY (kv vv:Value)(i:Nat):Value:=if i=0 then kv else vv
def aeq {P:Program}{ops:Array Oper}{rd:Option Nat}{Q:Exit->Act->World->Prop}{pr:Nat}{kv vv:Value}{w:World}:∀(l:List Oper) (acc aa:List (Nat×Nat)) (i:Nat) (a:Act),mj pr l acc=some aa->ops.toList.drop i=l->(∀x,x∈aa->x.1<a.tmps.size)->a.tmps.getD pr undef=.tuple #[kv,vv]->
 (∀x,x∈acc->a.tmps.getD x.1 undef=FY kv vv x.2)->(∀a',SameBut (rU ops) a a'->a'.defers=a.defers->(∀x,x∈aa->a'.tmps.getD x.1 undef=FY kv vv x.2)->Q .normal a' w)->wpOpsIn (FR rd) 0 P ops Q (List.range' i (ops.size-i)) a w
 |[],acc,aa,i,a,h,hl,ah,qP,Ev,hQ=>by
  simp only[mj,aS] at h;subst h;have:ops.size-i=0:=by
    have:=List.drop_eq_nil_iff.1 hl;simp at this;omega
  rw[this];exact hQ a (.refl _ _) rfl Ev
 |o::l,acc,aa,i,a,h,hl,ah,qP,Ev,hQ=>by
  have hi:i<ops.toList.length:=by
   refine XQ λhle=>?_;rw[List.drop_eq_nil_iff.2 hle] at hl;cases hl
  rw[XF hi] at hl;have ho:ops[i]?=some o:=by
   have:ops.toList[i]=o:=by injection hl
   rw[<-this];simp at hi ⊢
  have fY:ops.toList.drop (i+1)=l:=by injection hl
  have aH:ops.size-i=(ops.size-(i+1))+1:=by simp at hi;omega
  rw[aH,HY];have cL:o∈ops.toList:=by simpa using iX ho
  simp only[mj] at h;split at h
  case h_2=>cases h
  rename_i d hd il;rw[qh] at h;split at h
  .cases h
  rename_i hc;simp only[fQ,not_or,Bool.not_eq_true] at hc;have hdp:pr≠d:=λe=>by subst e;simp at hc
  have Ql:∀x,x∈acc->x.1≠d:=abZ hc.2;have go:∀(pt:Nat) (v:Value),mj pr l (acc++[(d,pt)])=some aa->pU o.op=true->v=FY kv vv pt->(execOp a.eval o).run P w=.ok (.value v) w->wpOpsIn (FR rd) 0 P ops Q (i::List.range' (i+1) (ops.size-(i+1))) a w:=by
   intro pt v hp bn hv hx;have Qm:d<a.tmps.size:=ah _ (LV l hp (d,pt) (by simp));refine Cp ho il bn hx ?_;have ki:=at6 cL a v;rw[hd] at ki ⊢;refine aeq l _ aa (i+1) _ hp fY (λx hx=>by rw[ki.size];exact ah x hx) (by rw[L6 hdp];exact qP) (λx hx=>?_) (λa' h1 h2 h3=>hQ a' (ki.trans h1) (h2.trans (put_defers _ _ _)) h3);rcases dm.1 hx with hx|hx
   .rw[L6 (Ql x hx)];exact Ev x hx
   .simp at hx;subst hx;rw[Cu Qm];exact hv
  split at h
  .rename_i t pt e;rw[qh] at h;split at h
   case isFalse=>cases h
   rename_i l5;simp only[aq] at l5;have ht:=aA l5.1;have wc:=lg l5.2;subst ht;have bX:a.eval (.tmp t)=.tuple #[kv,vv]:=by simpa [Act.eval] using qP
   refine go pt (FY kv vv pt) h (by rw[e];rfl) rfl ?_;rcases(by omega:pt=0\/pt=1) with rfl|rfl<;>simp[execOp,e,bX,Instr.extract,FY]
  .rename_i t e;simp only[aw] at h;obtain⟨pt,uo,h⟩:=h;have:=Ev _ (FH uo);exact go pt (a.eval (.tmp t)) h (by rw[e];rfl) (by simpa [Act.eval] using this) (by simp[execOp,e])
  .rename_i t e;simp only[aw] at h;obtain⟨pt,uo,h⟩:=h;have:=Ev _ (FH uo);exact go pt (a.eval (.tmp t)) h (by rw[e];rfl) (by simpa [Act.eval] using this) (by simp[execOp,e])
  .cases h
def RK (ids:List Nat)(J j:Nat)(S:Snap):((S.kill ids J).st ids).o j=if j=J then .dead else(S.st ids).o j:=by
 show eF ids (yV ids J S.os) j=_;have:∀(is:List Nat) (os:List Ob),eF is (yV is J os) j=if j=J then .dead else eF is os j:=by
  intro is
  induction is with
  |nil=>intro os;simp[yV,eF]
  |cons i is ih=>
   intro os;cases os with
   |nil=>simp[yV,eF]
   |cons o os=>
    simp only[yV,eF];cases hb:Nat.beq i j
    .simp only[zyw];exact ih os
    .have:=aA hb;subst this;simp only[zyx];by_cases cK:i=J
     .subst cK;simp
     .simp[fS cK,cK]
 exact this ids S.os
def Yk {N:Nat}{id:Nat}(KJ:id≠du){rm:Bool}{wr:Nat->Prop}{a:Act}{q:Res2}{x xi:Out}(sn:(∀t,t∈q.pc.modR->ay q.mr t=true)/\∀j,j∈q.pc.modO->j∈q.mo)(eE:q.pc.ev Z N O=some xi)(bX:(ib ids id q).pc.ev Z N O=some x){e:Exit}{a':Act}{w':World}
 (gM:iN C w0 σ0 ids fn s rm wr a q.out q.ex xi e a' w'):Exit.inBlock id (iN C w0 σ0 ids fn s rm wr a (ib ids id q).out (ib ids id q).ex x) e a' w':=by
 have aai:∀cA S1,(cA,S1)∈q.ex->cA≠id->(cA,S1)∈q.ex.filter λx=> !Nat.beq x.1 id:=λcA S1 hm aB=>eW.2 ⟨hm,by simp[fS aB]⟩;have main:∀(o:Option Snap) (lr lo:List Nat),pS id q.ex q.out=o->(∀M,o=some M->lr=lF M q.mr/\lo=kq ids M q.mo)->(PC.block id lr lo q.pc).ev Z N O=some x->
        Exit.inBlock id (iN C w0 σ0 ids fn s rm wr a o (q.ex.filter λx=> !Nat.beq x.1 id) x) e a' w':=by
  intro o lr lo ho hl bX;simp only[PC.ev] at bX;rw[eE] at bX
  have fin:∀{ρ1:Env} {a':Act} {w':World},(∃M,o=some M/\Good C w0 σ0 (M.st ids) ρ1 (λ_=>False) a' w')->xi.env?=some ρ1->x=.next (O.join lr lo ρ1)->SameBut wr a a'->
   iN C w0 σ0 ids fn s rm wr a o (q.ex.filter λx=> !Nat.beq x.1 id) x .normal a' w':=by
        intro ρ1 a' w' hM yk hx fe;obtain⟨M,hM,uj⟩:=hM;obtain⟨l1,l2⟩:=hl M hM;subst l1 l2;exact⟨_,M,hx,hM,fe,uj.joined (PC.ev_but q.pc O _ ρ1 eE yk) sn.1 sn.2⟩
  cases e with
  |normal=>
   obtain⟨ρ1,S2,e1,e2,fe,dx⟩:=gM;subst e1;simp only[aS] at bX;refine fin ?_ rfl bX.symm fe;rw[e2] at ho;obtain⟨M,h1,h2⟩:=Lx (id:=id) q.ex dx;rw[ho] at h1;exact⟨M,h1,h2⟩
  |exit cA=>
   obtain⟨ρ1,S2,e1,e0,e2,fe,dx⟩:=gM;subst e1;simp only at bX;show if cA=id then _ else _;by_cases dy:cA=id
   .subst dy;simp only[ja,zyx,aS] at bX;simp only[if_true];refine fin ?_ rfl bX.symm fe;rw[<-ho];exact R2 dx q.ex q.out e2
   .simp only[fS dy,zyw,aS] at bX;subst bX;simp only[dy,if_false];exact⟨ρ1,S2,rfl,e0,aai _ _ e2 dy,fe,dx⟩
  |ret=>
   cases rm with
   |false=>
    have hy:=gM;obtain⟨d,e1,_⟩:=hy;subst e1;simp only[aS] at bX;subst bX;exact gM
   |true=>
    obtain⟨ρ1,S2,e1,e2,fe,dx⟩:=gM;subst e1;simp only[fS (λe=>KJ e.symm:du≠id),zyw,aS] at bX;subst bX;exact⟨ρ1,S2,rfl,aai _ _ e2 (λe=>KJ e.symm),fe,dx⟩
  |_=>exact gM.elim
 unfold ib at bX ⊢;cases hm:pS id q.ex q.out with
 |none=>
  simp only[hm] at bX ⊢;exact main none [] [] hm (λM e=>by cases e) bX
 |some M=>
  simp only[hm] at bX ⊢;exact main (some M) _ _ hm (λM' e=>by cases e;exact⟨rfl,rfl⟩) bX
def Yi {N id:Nat}{q:Res2}{x:Out}(bX:(ib ids id q).pc.ev Z N O=some x):∃xi,q.pc.ev Z N O=some xi:=by
 unfold ib at bX;cases hm:pS id q.ex q.out<;>simp only[hm,PC.ev] at bX<;>cases eE:q.pc.ev Z N O<;>first|exact⟨_,rfl⟩|(rw[eE] at bX;cases bX)
def af4 {es:List (D×D)}{idx:List Nat}(hn:idx.Nodup)(ah:∀i,i∈idx->i<es.length)(aI:∀i,i<es.length->i∈idx):(iI es idx).Perm (jt (.map es)):=by
 have h1:idx.Perm (List.range es.length):=by
  rw[List.perm_ext_iff_of_nodup hn NZ];intro i;rw[cm];exact⟨ah i,aI i⟩
 have h2:iI es (List.range es.length)=jt (.map es):=by
  refine HO (by simp[iI,jt,D.m]) λi g1 g2=>?_;have hi:i<es.length:=by simpa [iI] using g1
  simp[iI,jt,D.m,bE hi]
 rw[<-h2];exact h1.map _
def aue {es:List (D×D)}{idx:List Nat}(hn:idx.Nodup)(ah:∀i,i∈idx->i<es.length):∃rest,(iI es idx++rest).Perm (jt (.map es)):=by
 refine⟨iI es ((List.range es.length).filter λi=> !idx.contains i),?_⟩;have e:iI es idx++iI es ((List.range es.length).filter λi=> !idx.contains i)=iI es (idx++(List.range es.length).filter λi=> !idx.contains i):=by simp[iI]
 rw[e];refine af4 ?_ (λi hi=>?_) (λi hi=>?_)
 .rw[zR];refine⟨hn,NZ.filter _,λa ha b hb e=>?_⟩;subst e;have:=(eW.1 hb).2;simp[ha] at this
 .rcases dm.1 hi with h|h
  .exact ah i h
  .exact cm.1 (eW.1 h).1
 .by_cases h:i∈idx
  .exact kE _ h
  .exact ld _ (eW.2 ⟨cm.2 hi,by simp[h]⟩)
def af5 (es:List (D×D))(idx:List Nat){i:Nat}{p:D×D}(h:es[i]?=some p):iI es (idx++[i])=iI es idx++[.tup [p.1,p.2]]:=by simp[iI,h]
def aqP {N:Nat}{x y z code:Code}{k:Nat}{p:MP}(hp:B1 x y k z=some p)(ihc:xI C Z fn s n ids R N code){rm:Bool}{S:Snap}{r:Res2}
 (hr:B2 ids n p (cT x++(cT y++(cT z++cT code))) (λS=>comp C fn s n ids R rm code S) S=some r) {rd:Option Nat} {wr:Nat->Prop} {x0:Out} (iw:rm=false->rd=none/\σ0.fin) (hC:CtxOK C σ0) (hY:rL C Z w0 σ0)
 (jm:∀t,t∈cT (.loop (.seq x (.seq y (.block k (.seq z code)))))->wr t) (hn:a.tmps.size=n) (hg:Good C w0 σ0 (S.st ids) O (λ_=>False) a w) (he:r.pc.ev Z N O=some x0):
 (Code.loop (.seq x (.seq y (.block k (.seq z code))))).wpIn (FR rd) 0 C.P (iN C w0 σ0 ids fn s rm wr a r.out r.ex x0) a w:=by
 obtain⟨i1,i2,o1,o2,o3,l,rfl,rfl,rfl,hk,e1,e2,d1,g1,q1,d2,g2,q2,d3,g3,q3,oE,n1,n2,n3,n4,n5,n6⟩:=aqN hp;subst hk;unfold B2 at hr;split at hr
 case h_2=>cases hr;exact absurd he (nR _ _ _ _)
 rename_i J hJ;split at hr
 case h_2=>cases hr;exact absurd he (nR _ _ _ _)
 rename_i kt et KO;simp only at hr;split at hr
 case h_2=>cases hr;exact absurd he (nR _ _ _ _)
 rename_i q hq;rw[qh] at hr;split at hr
 case isFalse=>cases hr;exact absurd he (nR _ _ _ _)
 rename_i yi;cases hr;generalize Lb:cT (.region i1 p.ops1 false)++(cT (.cond (.tmp p.mo) .skip (.exit p.out))++(cT (.region i2 p.ops2 false)++cT code))=ws at*;simp only[aq,iY] at yi;obtain⟨⟨⟨⟨⟨⟨⟨⟨c1,c2⟩,c3⟩,c4⟩,c5⟩,c6⟩,c7⟩,c8⟩,c9⟩:=yi;have hex:q.2.ex=[]:=tC.1 c1;have ZM:J∉q.2.mo:=λh=>by rw[(qY _ _).2 h] at c2;cases c2
 simp only[abu,aq,iY] at c3;obtain⟨⟨c3a,c3b⟩,c3c⟩:=c3;have aoq:q.1.rs.getD p.it .none=.obj J 0:=Sh.beq_eq _ _ c3a;have K1:eF ids q.1.os J=.it kt et:=Ob.beq_eq _ _ c3b;have aoi:∀t,t∈p.aa.map (·.1)->t<n:=λt ht=>by have:=bJ.1 c5 t ht;rwa [jB] at this
 have hnx:p.nx<n:=by rwa [jB] at c6
 have QI:p.mo<n:=by rwa [jB] at c7
 have qP:p.pr<n:=by rwa [jB] at c8
 have E1:=aA c9;obtain⟨hs,BA,bp⟩:=FA (C:=C) (w0:=w0) (σ0:=σ0) (ids:=ids) 8 hq;simp only[aC] at hs;obtain⟨q0,we,kg⟩:=hs;obtain⟨qS,qR⟩:=q;simp only at*;subst kg;generalize hm:y2 ws=m at*;generalize yx:kq ids qS (ib ids p.next q0).mo=lo at*;have QK:=Yj (ids:=ids) (id:=p.next) (vE code we);have anI:∀j,j∈lo->j∈(ib ids p.next q0).mo:=λj hj=>by rw[<-yx] at hj;exact B3 hj
 have aBO:J∉lo:=λh=>ZM (anI J h);have E9:∃C8,LY ((ib ids p.next q0).pc.ev Z N) O J (p.aa.map (·.1)) (p.aa.map (·.2)) lo C8/\x0=.exit p.out (O.put [] [] lo C8):=by
  simp only[PC.ev] at he;cases qP:LZ ((ib ids p.next q0).pc.ev Z N) O J (p.aa.map (·.1)) (p.aa.map (·.2)) lo with
  |none=>rw[qP] at he;cases he
  |some y=>
   obtain⟨C8,h1,rfl⟩:=Cs.1 qP;rw[qP] at he;simp only[aS] at he;exact⟨C8,h1,he.symm⟩
 obtain⟨C8,⟨BK,amB⟩,dg⟩:=E9;generalize ke:(O.o J).tget 1=es at*
 have eN:∀o,o∈p.ops1.toList->∀d,o.dst=some d->d∈ws:=λo ho d hd=>by
  rw[<-Lb];exact kE _ (vp.2 ⟨o,ho,hd⟩)
 have fL:∀o,o∈p.ops2.toList->∀d,o.dst=some d->d∈ws:=λo ho d hd=>by
  rw[<-Lb];exact ld _ (ld _ (kE _ (vp.2 ⟨o,ho,hd⟩)))
 have hwc:∀d,d∈cT code->d∈ws:=λd hd=>by
  rw[<-Lb];exact ld _ (ld _ (ld _ hd))
 have RA:∀t,t∈ws->wr t:=λt ht=>jm t (by rw[<-Lb] at ht;exact ht);have uv:∀t,t∈ws->ay m t=true:=λt ht=>by rw[<-hm];exact Yg ht
 have QH:∀t,ay m t=true->((qS.mask m).st ids).r t=.none:=λt ht=>by rw[FJ,if_pos ht]
 have anO:∀t,isNone (((qS.mask m).st ids).r t)=false->ay m t=false:=λt ht=>by
  cases hb:ay m t with
  |false=>rfl
  |true=>rw[QH t hb] at ht;cases ht
 have ff:((qS.mask m).st ids).r p.it=.obj J 0:=by
  rw[FJ,c3c];show db (qS.rs.getD p.it .none)=_;rw[aoq];rfl
 have de:((qS.mask m).st ids).o J=.it kt et:=K1;have kQ:p.ops1[0]?=some o1:=by rw[<-zH,e1];rfl
 have jh:p.ops1[1]?=some o2:=by rw[<-zH,e1];rfl
 have ho3:p.ops2[0]?=some o3:=by rw[<-zH,e2];rfl
 have aoH:List.range p.ops1.size=[0,1]:=by
  have:p.ops1.size=2:=by rw[<-tu,e1];rfl
  rw[this];rfl
 have Rm:List.range p.ops2.size=0::List.range' 1 (p.ops2.size-1):=by
  have:p.ops2.size=l.length+1:=by rw[<-tu,e2];rfl
  rw[this,N0,HY];rfl
 have key:∀(kk:Nat) (done vo:List D) (a':Act) (w':World),SameBut wr a a'->Good C w0 σ0 ((qS.mask m).st ids) ((O.put [] [] lo vo).setO J (.tup [.list done,es])) (λ_=>False) a' w'->
  (∀ys,(done++ys).Perm (jt es)->pX ((ib ids p.next q0).pc.ev Z N) O J es (p.aa.map (·.1)) (p.aa.map (·.2)) lo ys done vo=some C8)->done.length+kk=(jt es).length+1->
  Code.roundsIn (FR rd) 0 C.P (.seq (.region i1 p.ops1 false) (.seq (.cond (.tmp p.mo) .skip (.exit p.out)) (.block p.next (.seq (.region i2 p.ops2 false) code)))) (iN C w0 σ0 ids fn s rm wr a none [(p.out,(qS.mask m).kill ids J)] x0) kk a' w':=by
  intro kk
  induction kk with
  |zero=>
   intro done vo a' w' _ fW _ hlen;exfalso;obtain⟨V,own,hv,h⟩:=fW;have ba:=h.objs J;rw[de] at ba;obtain⟨kb,mb,arr,clock,gI,idx,h1,h2,h3,aB,h4,h5,h6,h7,h8,h9,j9,kK⟩:=ba;simp only[Env.setO,aO] at h6;injection h6 with h6;injection h6 with yd ye;injection ye with ye _;injection yd with yd;subst yd;subst ye;have hle:idx.length<=arr.size:=by
        have:=List.Nodup.length_le_of_subset h7 (l₂:=List.range arr.size) (λi hi=>cm.2 (h8 i hi));simpa using this
   simp[iI,jt,D.m] at hlen;omega
  |succ kk ih=>
   intro done vo a' w' ki fW aI hlen;rw[roundsIn_succ];obtain⟨V,own,hv,h⟩:=fW;have ba:=h.objs J;rw[de] at ba;obtain⟨kb,mb,arr,clock,gI,idx,h1,h2,h3,aB,h4,h5,h6,h7,h8,h9,j9,kK⟩:=ba;simp only[Env.setO,aO] at h6;injection h6 with h6;injection h6 with yd ye;injection ye with ye _;injection yd with yd;subst yd;subst ye;have gY:=h.regs p.it;rw[ff] at gY;have KK:a'.eval (.tmp p.it)=.pointer (some ⟨kb,0,none⟩):=by
        have:=gY.2 rfl;simp only[Act.eval];rw[this];exact h1
   have sv:a'.tmps.size=n:=ki.size.trans hn;obtain⟨w1,abe,KY⟩:=arh (P:=C.P) h5 h4 j9 h8 o1.type;have Ft:Below w'.heap.size w' w1:=by rcases abe with rfl|rfl;exact .refl _ _;exact⟨rfl,rfl,rfl,aY _,λ_ _=>rfl⟩
   have BS:w1.heap=w'.heap:=by rcases abe with rfl|rfl<;>rfl
   have hkl:kb<w'.heap.size:=(h.owns kb J h2).2.1;have oC:mb<w'.heap.size:=(h.owns mb J h3).2.1;refine wpIn_seq (wpIn_region ?_);rw[aoH];rcases KY with⟨Qs,ao⟩|⟨i,e,oy,yq,ao⟩
   ·
        refine Cp kQ g1 (by rw[q1];rfl) (v:=.tuple #[.bool false]) (w':=w1) (by simp only[execOp,q1,KK];simp[ao]) ?_;rw[d1]
        refine Cp jh g2 (by rw[q2];rfl) (v:=.bool false) (w':=w1) (by
         have:(a'.put (some p.nx) (.tuple #[.bool false])).eval (.tmp p.nx)=.tuple #[.bool false]:=by simp only[Act.eval];exact Cu (by omega)
         simp only[execOp,q2,this];simp[Instr.extract]) ?_
        rw[d2];simp only[wpOpsIn]
        have yI:SameBut (λt=>t∈ws) a' ((a'.put (some p.nx) (.tuple #[.bool false])).put (some p.mo) (.bool false)):=by
         have s1:=SameBut.put a' (some p.nx) (.tuple #[.bool false]) a'.defers;have s2:=SameBut.put (a'.put (some p.nx) (.tuple #[.bool false])) (some p.mo) (.bool false) (a'.put (some p.nx) (.tuple #[.bool false])).defers;exact(s1.mono λt e=>by cases e;exact eN o1 (by rw[e1];simp) _ d1).trans (s2.mono λt e=>by cases e;exact eN o2 (by rw[e1];simp) _ d2)
        generalize Es:(a'.put (some p.nx) (.tuple #[.bool false])).put (some p.mo) (.bool false)=a1 at yI;have QJ:a1.eval (.tmp p.mo)=.bool false:=by
         rw[<-Es];simp only[Act.eval];exact Cu (by rw[size_put];omega)
        have pC:a1.defers=a'.defers:=by rw[<-Es,put_defers,put_defers]
        refine wpIn_seq (wpIn_cond_false QJ (wpIn_exit ?_));have aod:(iI gI idx++[]).Perm (jt (.map gI)):=by
         rw[mz];exact af4 h7 (λi hi=>by rw[h9];exact h8 i hi) (λi hi=>Qs i (by omega))
        have abd:=aI [] aod;simp only[pX,aS] at abd;subst abd;refine⟨_,_,dg,n5,oZ.2 rfl,ki.trans (yI.mono RA),?_⟩;refine⟨V,own,hv,?_⟩
        refine h.step (S':=((qS.mask m).kill ids J).st ids) (O':=O.put [] [] lo vo) (A':=λ_=>False) (λj=>j=J) pC (.refl V) (h.ok.below Ft) (λ_ _ _ hx=>.inl hx) (λ_ _ hx=>.inl hx) (Ft.mono h.below.size) ⟨λ_=>aY _,λ_ _=>rfl⟩
         (λj hj=>⟨by rw[RK,if_neg hj],by simp[Env.setO,bt _ _ hj],rfl,λb hb=>⟨hb,by rw[BS]⟩⟩) (λj hj=>?_) (λb j hb=>?_) (λ_=>id) (λt=>?_) (λ_ hf=>hf.elim) (λb hb _=>by rw[BS]) (λb j hb=>.inl ⟨j,hb⟩) (λj hj=>?_)
        .rw[RK,if_pos hj];trivial
        .obtain⟨b1,b2,b3,b4⟩:=h.owns b j hb;exact⟨b1,by rw[BS];exact b2,b3,b4⟩
        .by_cases ht:t∈ws
         .refine .inr ⟨?_,λgs s' e=>absurd e (Snap.noOpt _ _ t gs s')⟩;have:(((qS.mask m).kill ids J).st ids).r t=.none:=QH t (uv t ht);rw[this];trivial
         .exact .inl ⟨rfl,yI.get t ht,rfl⟩
        .rw[RK,if_pos hj];intro e;cases e
   ·
        obtain⟨pd,Q0⟩:∃pd,gI[i]?=some pd:=⟨_,bE (by rw[h9];exact(dV.1 oy).1)⟩
        obtain⟨bW,bN⟩:=kK i e pd oy Q0;generalize BT:({w1 with heap:=w1.heap.setIfInBounds kb (.mapIter (some mb) clock (ia arr (idx++[i])) clock)}:World)=w2 at ao;have abf:w2.heap[kb]?=some (.mapIter (some mb) clock (ia arr (idx++[i])) clock):=by rw[<-BT];simp[BS,hkl]
        have BU:∀b,b≠kb->w2.heap[b]?=w'.heap[b]?:=λb hb=>by rw[<-BT];simp only[BS];rw[Xw (tH hb)]
        have aCm:w2.heap.size=w'.heap.size:=by rw[<-BT];simp[BS]
        have abg:w2.heap[mb]?=some (.map arr clock):=by rw[BU mb (tH aB)];exact h4
        refine Cp kQ g1 (by rw[q1];rfl) (v:=.tuple #[.bool true,e.key,e.val]) (w':=w2) (by simp only[execOp,q1,KK];simp[ao]) ?_;rw[d1]
        refine Cp jh g2 (by rw[q2];rfl) (v:=.bool true) (w':=w2) (by
         have:(a'.put (some p.nx) (.tuple #[.bool true,e.key,e.val])).eval (.tmp p.nx)=.tuple #[.bool true,e.key,e.val]:=by simp only[Act.eval];exact Cu (by omega)
         simp only[execOp,q2,this];simp[Instr.extract]) ?_
        rw[d2];simp only[wpOpsIn]
        have yI:SameBut (λt=>t∈ws) a' ((a'.put (some p.nx) (.tuple #[.bool true,e.key,e.val])).put (some p.mo) (.bool true)):=by
         have s1:=SameBut.put a' (some p.nx) (.tuple #[.bool true,e.key,e.val]) a'.defers;have s2:=SameBut.put (a'.put (some p.nx) (.tuple #[.bool true,e.key,e.val])) (some p.mo) (.bool true) (a'.put (some p.nx) (.tuple #[.bool true,e.key,e.val])).defers;exact(s1.mono λt e=>by cases e;exact eN o1 (by rw[e1];simp) _ d1).trans (s2.mono λt e=>by cases e;exact eN o2 (by rw[e1];simp) _ d2)
        have aas:(((a'.put (some p.nx) (.tuple #[.bool true,e.key,e.val])).put (some p.mo) (.bool true))).eval (.tmp p.it)=.pointer (some ⟨kb,0,none⟩):=by
         simp only[Act.eval] at KK ⊢;rw[L6 n2,L6 n1];exact KK
        generalize Es:(a'.put (some p.nx) (.tuple #[.bool true,e.key,e.val])).put (some p.mo) (.bool true)=a1 at yI aas;have QJ:a1.eval (.tmp p.mo)=.bool true:=by
         rw[<-Es];simp only[Act.eval];exact Cu (by rw[size_put];omega)
        have pC:a1.defers=a'.defers:=by rw[<-Es,put_defers,put_defers]
        refine wpIn_seq (wpIn_cond_true QJ (wpIn_skip ?_));refine wpIn_block (wpIn_seq (wpIn_region ?_));rw[Rm];refine Cp ho3 g3 (by rw[q3];rfl) (v:=.tuple #[e.key,e.val]) (w':=w2) (by simp only[execOp,q3,aas];simp[akp abf abg j9 oy]) ?_;rw[d3]
        have K7:SameBut (λt=>t∈ws) a1 (a1.put (some p.pr) (.tuple #[e.key,e.val])):=
         (SameBut.put a1 (some p.pr) (.tuple #[e.key,e.val]) a1.defers).mono λt e=>by cases e;exact fL o3 (by rw[e2];simp) _ d3
        have aa5:a1.tmps.size=n:=yI.size.trans sv;refine aeq (kv:=e.key) (vv:=e.val) l [] p.aa 1 _ oE (by rw[e2];rfl) (λx hx=>by rw[K7.size,aa5];exact aoi _ (dX.2 ⟨x,hx,rfl⟩)) (Cu (by rw[aa5];exact qP)) (λx hx=>by cases hx) (λa2 fe dZ aob=>?_);have Rg:SameBut (λt=>t∈ws) a' a2:=(yI.trans K7).trans (fe.mono λt ⟨o,ho,hd⟩=>fL o ho t hd);have am2:a2.defers=a'.defers:=by rw[dZ,put_defers,pC]
        have aoF:Good C w0 σ0 (((qS.mask m).start (p.aa.map (·.1)) (p.aa.map λx=>bif Nat.beq x.2 0 then kt else et)).st ids) ((O.put (p.aa.map (·.1)) ((p.aa.map (·.2)).map (D.tup [pd.1,pd.2]).tget) lo vo).setO J (.tup [.list (iI gI idx++[.tup [pd.1,pd.2]]),.map gI])) (λ_=>False) a2 w2:=by
         have EB:Below w0.heap.size w' w2:=⟨by rw[<-BT];exact Ft.os,by rw[<-BT];exact Ft.tape,by rw[<-BT];exact Ft.output,by omega,λb hb=>BU b (λe=>by subst e;have:=(h.owns b J h2).1;omega)⟩
         have jN:V.ok w2:=by
          refine⟨λb o v hc=>?_,λb es hc=>?_⟩
          .have vP:b≠kb:=λe=>by subst e;rw[(h.owns b J h2).2.2.1 o] at hc;cases hc
           have:=h.ok.c b o v hc;simp only[World.cell?] at this ⊢;rw[BU b vP];exact this
          .have vP:b≠kb:=λe=>by subst e;rw[(h.owns b J h2).2.2.2] at hc;cases hc
           exact(h.ok.m b es hc).keep (BU b vP)
         have gM:∀j,((O.put (p.aa.map (·.1)) ((p.aa.map (·.2)).map (D.tup [pd.1,pd.2]).tget) lo vo).setO J (.tup [.list (iI gI idx++[.tup [pd.1,pd.2]]),.map gI])).o j=if j=J then .tup [.list (iI gI idx++[.tup [pd.1,pd.2]]),.map gI] else putL O.o lo vo j:=λj=>by
          simp only[Env.setO,gm];rfl
         refine⟨V,own,hv,h.step (λj=>j=J) am2 (.refl V) jN (λ_ _ _ hx=>.inl hx) (λ_ _ hx=>.inl hx) EB ⟨λ_=>aY _,λ_ _=>rfl⟩
          (λj hj=>⟨rfl,by rw[gM,if_neg hj];simp[Env.setO,bt _ _ hj,Env.put],rfl,λb hb=>⟨hb,BU b (λe=>by subst e;rw[h2] at hb;cases hb;exact hj rfl)⟩⟩) (λj hj=>?_) (λb j hb=>?_) (λ_=>id) (λt=>?_) (λ_ hf=>hf.elim)
          (λb hb ho=>BU b (λe=>by subst e;rw[h2] at ho;cases ho)) (λb j hb=>.inl ⟨j,hb⟩) (λj hj=>?_)⟩
         .subst hj;have:(((qS.mask m).start (p.aa.map (·.1)) (p.aa.map λx=>bif Nat.beq x.2 0 then kt else et)).st ids).o j=.it kt et:=K1;rw[this];refine⟨kb,mb,arr,clock,gI,idx++[i],h1,h2,h3,aB,abg,abf,by rw[gM,if_pos rfl,af5 gI idx Q0],?_,?_,h9,j9,kK⟩
          .rw[zR];exact⟨h7,by simp,λa ha b hb e=>by simp at hb;subst hb;subst e;exact yq ha⟩
          .intro i' cN;rcases dm.1 cN with h|h
           .exact h8 i' h
           .simp at h;subst h;exact(dV.1 oy).1
         .obtain⟨b1,b2,b3,b4⟩:=h.owns b j hb;exact⟨b1,by omega,b3,b4⟩
         .have hc:Compat ((qS.mask m).st ids) hv (((qS.mask m).start (p.aa.map (·.1)) (p.aa.map λx=>bif Nat.beq x.2 0 then kt else et)).st ids) hv:=⟨λ_=>aY _,λ_ _=>rfl⟩
          refine .inr ⟨?_,λgs s' e=>absurd e (Snap.noOpt _ _ t gs s')⟩;show aK C _ _ V hv (db ((sZ (p.aa.map (·.1)) (p.aa.map λx=>bif Nat.beq x.2 0 then kt else et) ((qS.mask m).rs.map uk)).getD t .none)) (a2.tmps.getD t undef) (putL O.r (p.aa.map (·.1)) ((p.aa.map (·.2)).map (D.tup [pd.1,pd.2]).tget) t);rcases UM (p.aa.map (·.1)) (p.aa.map λx=>bif Nat.beq x.2 0 then kt else et) ((qS.mask m).rs.map uk) (by simp) c4 t with e|⟨A9,vF⟩|⟨i',y,A9,vF,Po⟩
          .rw[e];trivial
          .rw[vF,Ct _ _ _ _ A9];have e3:((qS.mask m).rs.map uk).getD t .none=uk ((qS.mask m).rs.getD t .none):=by
            simp only[aN,cV];cases(qS.mask m).rs[t]?<;>rfl
           rw[e3];by_cases htw:t∈ws
           .have BH:=QH t (uv t htw);change db ((qS.mask m).rs.getD t .none)=.none at BH;generalize (qS.mask m).rs.getD t .none=s' at BH;cases s'<;>simp[db] at BH<;>trivial
           .have hr:=h.regs t;change aK C _ _ V hv (db ((qS.mask m).rs.getD t .none)) _ (O.r t) at hr;rw[Rg.get t htw];generalize (qS.mask m).rs.getD t .none=s' at hr;cases s' with
            |yv=>trivial
            |opt gs s=>trivial
            |none=>trivial
            |fclo f c=>exact aK.mono' (.refl V) hc (λ_ _ e=>by cases e) hr
            |agg l=>exact aK.mono' (.refl V) hc (λ_ _ e=>by cases e) hr
            |dat t=>exact hr
            |obj j v=>exact aK.mono' (.refl V) hc (λ_ _ e=>by cases e) hr
            |ptr j v o=>exact aK.mono' (.refl V) hc (λ_ _ e=>by cases e) hr
            |eptr j v o q=>exact aK.mono' (.refl V) hc (λ_ _ e=>by cases e) hr
          .rw[Po];have ano:i'<p.aa.length:=by have:=(eV.1 A9).1;simpa using this
           rw[S7 _ (p.aa.map (·.1)) _ i' t (nJ c4) (by simp) A9];obtain⟨xa,kS⟩:∃xa,p.aa[i']?=some xa:=⟨_,bE ano⟩
           simp only[cV,kS,lU,aS] at A9 vF;subst A9;subst vF;rw[aob xa (lf kS)];have hd:((p.aa.map (·.2)).map (D.tup [pd.1,pd.2]).tget).getD i' .none=(D.tup [pd.1,pd.2]).tget xa.2:=by simp[aN,kS]
           rw[hd];have h2x:xa.2<=1:=by
            rcases SW l oE (λx hx=>by cases hx) xa (lf kS) with h|h
            .cases h
            .exact h.1
           rcases(by omega:xa.2=0\/xa.2=1) with e0|e0<;>rw[e0]
           .exact bW
           .exact bN
         .have:(((qS.mask m).start (p.aa.map (·.1)) (p.aa.map λx=>bif Nat.beq x.2 0 then kt else et)).st ids).o j=.it kt et:=by rw[hj];exact K1
          rw[this];intro e;cases e
        have aoc:=af5 gI idx Q0;obtain⟨rest,wg⟩:∃rest,(iI gI idx++(D.tup [pd.1,pd.2])::rest).Perm (jt (.map gI)):=by
         obtain⟨rest,hr⟩:=aue (es:=gI) (idx:=idx++[i]) (by rw[zR];exact⟨h7,by simp,λa ha b hb e=>by simp at hb;subst hb;subst e;exact yq ha⟩) (λi' cN=>by
          rcases dm.1 cN with h|h
          .rw[h9];exact h8 i' h
          .simp at h;subst h;rw[h9];exact(dV.1 oy).1)
         rw[aoc] at hr;exact⟨rest,by simpa using hr⟩
        have cH:=aI _ wg;simp only[pX] at cH;split at cH
        case h_2=>cases cH
        rename_i ρ2 Kv;obtain⟨xi,eE⟩:=Yi Kv;refine wpIn_mono (ihc rm _ q0 we rd w0 σ0 wr _ xi a2 w2 iw hC hY (λt ht=>RA t (hwc t ht)) (Rg.size.trans sv) aoF eE) λee a3 w3 gM=>?_;have ly:=Yk n6 (vE code we) eE Kv gM;have conv:∀ee a3 w3,iN C w0 σ0 ids fn s rm wr a2 (ib ids p.next q0).out (ib ids p.next q0).ex (.next ρ2) ee a3 w3->Exit.then (Code.roundsIn (FR rd) 0 C.P (.seq (.region i1 p.ops1 false) (.seq (.cond (.tmp p.mo) .skip (.exit p.out)) (.block p.next (.seq (.region i2 p.ops2 false) code)))) (iN C w0 σ0 ids fn s rm wr a none [(p.out,(qS.mask m).kill ids J)] x0) kk) (iN C w0 σ0 ids fn s rm wr a none [(p.out,(qS.mask m).kill ids J)] x0) ee a3 w3:=by
         intro ee a3 w3 ho;cases ee with
         |normal=>
          obtain⟨ρ3,T,f1,f2,f3,f4⟩:=ho;cases f1;refine ih (iI gI idx++[.tup [pd.1,pd.2]]) (lo.map ρ2.o) a3 w3 (ki.trans ((Rg.mono RA).trans f3)) ?_ (λys uy=>?_) (by simp at hlen ⊢;omega)
          .have uj:Good C w0 σ0 (qS.st ids) ρ2 (λ_=>False) a3 w3:=by
            have:=f4.meet2 (x:=qS)
            rwa [BA T f2] at this
           obtain⟨σ3,y9,Fp,mH⟩:=uj;have Qg:=PC.ev_but _ _ _ ρ2 Kv rfl;refine⟨σ3,y9,Fp,(mH.maskR m).env (Snap.noOpt _ _) (λt ht=>?_) (λj hj=>?_)⟩
           .have BH:=anO t ht
            have dp:t∉(ib ids p.next q0).pc.modR:=λdM=>by
                 have:=QK.1 t dM;have h2:ay (Nat.lor m (ib ids p.next q0).mr) t=true:=by rw[gu,this,oY]
                 rw[E1,BH] at h2;cases h2
            rw[Qg.r t dp]
            have sq:t∉p.aa.map (·.1):=λaT=>by
                 have:ay m t=true:=by
                  refine uv t ?_;obtain⟨xa,kS,rfl⟩:=dX.1 aT;rcases SW l oE (λx hx=>by cases hx) xa kS with h|⟨_,o,ho,hd⟩
                  .cases h
                  .exact fL o (by rw[e2];exact dW _ ho) _ hd
                 rw[BH] at this;cases this
            show O.r t=putL O.r (p.aa.map (·.1)) _ t;rw[Ct _ _ _ _ sq]
           .have hjd:pP (eF ids qS.os j)=false:=hj;show cv (putL O.o lo (lo.map ρ2.o)) J _ j=ρ2.o j;by_cases BE:j=J
            .subst BE;rw[aO,Qg.o j (λdM=>ZM (QK.2 j dM))];simp[Env.setO,aO]
            .rw[bt _ _ BE,uO];split
             .rfl
             .rename_i fX;have dp:j∉(ib ids p.next q0).pc.modO:=λdM=>fX (by rw[<-yx];exact eW.2 ⟨QK.2 j dM,by rw[hjd];rfl⟩);rw[Qg.o j dp];simp only[Env.setO,bt _ _ BE];exact(S8 _ _ _ _ fX).symm
          .have:=aI ((D.tup [pd.1,pd.2])::ys) (by simpa using uy);simp only[pX,Kv] at this;exact this
         |exit id=>obtain⟨ρ3,T,f1,_⟩:=ho;cases f1
         |ret=>
          cases rm with
          |false=>obtain⟨d,f1,_⟩:=ho;cases f1
          |true=>obtain⟨ρ3,T,f1,_⟩:=ho;cases f1
         |_=>exact ho.elim
        cases ee with
        |exit id=>
         simp only[Exit.inBlock] at ly;show if id=p.next then _ else _;split
         .rename_i dy;rw[if_pos dy] at ly;exact conv .normal a3 w3 ly
         .rename_i dy;rw[if_neg dy] at ly;exact conv (.exit id) a3 w3 ly
        |normal=>exact conv .normal a3 w3 ly
        |ret=>exact conv .ret a3 w3 ly
        |panic c=>exact gM.elim
        |goto l=>exact gM.elim
        |_=>exact gM.elim
 have hgq:Good C w0 σ0 (qS.st ids) O (λ_=>False) a w:=bp hg;obtain⟨V,own,hv,h⟩:=hgq;have ba:=h.objs J;have:(qS.st ids).o J=.it kt et:=K1;rw[this] at ba;obtain⟨kb,mb,arr,clock,gI,idx,h1,h2,h3,aB,h4,h5,h6,h7,h8,h9,j9,kK⟩:=ba;have hρJ:O.o J=.tup [.list [],es]:=by
  rw[h6] at BK ke;simp[D.tget] at BK ke;rw[h6,BK,<-ke]
 have yk:(O.put [] [] lo (lo.map O.o)).setO J (.tup [.list [],es])=O:=by
  rw[Env.put_self];show Env.mk _ _=_;have:cv O.o J (.tup [.list [],es])=O.o:=by
   funext j;rw[gm];split
   .rename_i e;rw[e];exact hρJ.symm
   .rfl
  rw[this]
 exact wpIn_loop_rounds _ (key ((jt es).length+1) [] (lo.map O.o) a w (.refl _ _) (by rw[yk];exact⟨V,own,hv,h.maskR m⟩) (λys uy=>amB ys uy) (by simp))
def ajm {N:Nat}(jG:la C Z)(hR:N6 C n ids Z R):∀(k:Nat) (c:Code),sizeOf c<k->xI C Z fn s n ids R N c:=by
 intro k;refine Nat.rec (λc h=>absurd h (Nat.not_lt_zero _)) (λk IH=>?_) k;intro c hc;cases c with
 |skip=>
  intro rm S r h rd w0 σ0 wr O x a w iw hC hY jm hn hg he;simp only[comp,aS] at h;subst h;simp only[PC.ev,aS] at he;subst he;exact wpIn_skip ⟨O,S,rfl,rfl,.refl _ _,hg⟩
 |region id ops draw=>
  intro rm S r h rd w0 σ0 wr O x a w iw hC hY jm hn hg he;simp only[comp,aC] at h;obtain⟨q,hq,rfl⟩:=h;simp only[PC.ev,aC] at he;obtain⟨O',hr,rfl⟩:=he;exact hR id ops draw S q hq rd w0 σ0 O O' a w _ hC hY hn hg hr (λa' w' qQ fW=>⟨O',q.1,rfl,rfl,qQ.mono (λt ⟨o,h1,h2⟩=>jm t (vp.2 ⟨o,h1,h2⟩)),fW⟩)
 |seq c1 c2=>
  have wy:=IH c1 (by simp at hc;omega);have kT:=IH c2 (by simp at hc;omega);intro rm S r h rd w0 σ0 wr O x a w iw hC hY jm hn hg he;have eN:∀t,t∈cT c1->wr t:=λt ht=>jm t (kE _ ht);have fL:∀t,t∈cT c2->wr t:=λt ht=>jm t (ld _ ht);simp only[comp,aw] at h;obtain⟨q,hq,h⟩:=h;split at h
  .rename_i lx;cases h;refine wpIn_seq (wpIn_mono (wy rm S _ hq rd w0 σ0 wr O x a w iw hC hY eN hn hg he) λe a' w' ho=>?_);cases e with
   |normal=>obtain⟨_,_,_,h2,_⟩:=ho;rw[lx] at h2;cases h2
   |_=>exact ho
  .rename_i S1 lx;simp only[aC] at h;obtain⟨p,hp,rfl⟩:=h;simp only[PC.ev] at he
   have key:∀x1,q.pc.ev Z N O=some x1->(match some x1 with|some (.next O')=>p.pc.ev Z N O'|y=>y)=some x->(Code.seq c1 c2).wpIn (FR rd) 0 C.P (iN C w0 σ0 ids fn s rm wr a p.out (q.ex++p.ex) x) a w:=by
      intro x1 h1 h2;refine wpIn_seq (wpIn_mono (wy rm S _ hq rd w0 σ0 wr O x1 a w iw hC hY eN hn hg h1) λe a' w' ho=>?_);have other:∀{e:Exit},e≠.normal->iN C w0 σ0 ids fn s rm wr a q.out q.ex x1 e a' w'->x1=x->iN C w0 σ0 ids fn s rm wr a p.out (q.ex++p.ex) x e a' w':=by
       intro e aB ho hx;subst hx;exact ho.mono (λy hy=>kE _ hy) (.refl _ _) (λe=>absurd e aB)
      cases e with
      |normal=>
       obtain⟨ρ1,S2,e1,e2,fe,dx⟩:=ho;subst e1;rw[lx] at e2;cases e2;simp only at h2;refine wpIn_mono (kT rm S1 _ hp rd w0 σ0 wr ρ1 x a' w' iw hC hY fL (fe.size.trans hn) dx h2) λe a2 w2 jh=>?_;exact jh.mono (λy hy=>ld _ hy) fe (λ_=>rfl)
      |exit id=>
       refine other (by simp) ho ?_;obtain⟨ρ1,S2,e1,_⟩:=ho;subst e1;simpa using h2
      |ret=>
       refine other (by simp) ho ?_;cases rm with
       |false=>obtain⟨d,e1,_⟩:=ho;subst e1;simpa using h2
       |true=>obtain⟨ρ1,S2,e1,_⟩:=ho;subst e1;simpa using h2
      |_=>exact ho.elim
   cases h1:q.pc.ev Z N O with
   |none=>rw[h1] at he;simp at he
   |some x1=>rw[h1] at he;exact key x1 h1 he
 |cond c c1 c2=>
  have wy:=IH c1 (by simp at hc;omega);have kT:=IH c2 (by simp at hc;omega);intro rm S r h rd w0 σ0 wr O x a w iw hC hY jm hn hg he;have eN:∀t,t∈cT c1->wr t:=λt ht=>jm t (kE _ ht);have fL:∀t,t∈cT c2->wr t:=λt ht=>jm t (ld _ ht);simp only[comp] at h;split at h
  case h_2=>cases h;exact absurd he (nR _ _ _ _)
  rename_i e hu;simp only[aw,aC] at h;obtain⟨q,hq,p,hp,rfl⟩:=h;have hb:∃b,a.eval c=.bool b/\e.ev O=.v (.bool b):=by
   obtain⟨V,own,hv,hi⟩:=hg;have:=cQ (gs:=[]) hi hC rfl hu;generalize a.eval c=v at this;generalize e.ev O=d at this;cases this with|bool b=>exact⟨b,rfl,rfl⟩
  obtain⟨b,cH,bC⟩:=hb;have sn:=vE c1 hq;have E0:=vE c2 hp;have main:∀(o:Option Snap) (lr lo:List Nat) (rx:Res2),rx=⟨.ite e lr lo q.pc p.pc,o,q.ex++p.ex,Nat.lor q.mr p.mr,kA q.mo p.mo⟩->
        (∀M,o=some M->lr=lF M (Nat.lor q.mr p.mr)/\lo=kq ids M (kA q.mo p.mo))->
        (∀S1 ρ1 a w,q.out=some S1->Good C w0 σ0 (S1.st ids) ρ1 (λ_=>False) a w->∃M,o=some M/\Good C w0 σ0 (M.st ids) ρ1 (λ_=>False) a w)->
        (∀S1 ρ1 a w,p.out=some S1->Good C w0 σ0 (S1.st ids) ρ1 (λ_=>False) a w->∃M,o=some M/\Good C w0 σ0 (M.st ids) ρ1 (λ_=>False) a w)->
        rx.pc.ev Z N O=some x->(Code.cond c c1 c2).wpIn (FR rd) 0 C.P (iN C w0 σ0 ids fn s rm wr a rx.out rx.ex x) a w:=by
   intro o lr lo rx hrx hl su oE bX;subst hrx;simp only[PC.ev,bC,D.b_bool] at bX;have fin:∀(ci:Code) (qi:Res2) (xi:Out),(∀y,y∈qi.ex->y∈q.ex++p.ex)->(∀t,t∈qi.pc.modR->ay (Nat.lor q.mr p.mr) t=true)->(∀j,j∈qi.pc.modO->j∈kA q.mo p.mo)->
    (∀S1 ρ1 a w,qi.out=some S1->Good C w0 σ0 (S1.st ids) ρ1 (λ_=>False) a w->∃M,o=some M/\Good C w0 σ0 (M.st ids) ρ1 (λ_=>False) a w)->
    qi.pc.ev Z N O=some xi->(match some xi with|some (.next O')=>some (Out.next (O.join lr lo O'))|y=>y)=some x->
    ci.wpIn (FR rd) 0 C.P (iN C w0 σ0 ids fn s rm wr a qi.out qi.ex xi) a w->ci.wpIn (FR rd) 0 C.P (iN C w0 σ0 ids fn s rm wr a o (q.ex++p.ex) x) a w:=by
        intro ci qi xi hex jO nA lx eE hx hwp;refine wpIn_mono hwp λee a' w' ho=>?_;have other:ee≠.normal->xi=x->iN C w0 σ0 ids fn s rm wr a o (q.ex++p.ex) x ee a' w':=by
         intro aB km;subst km;exact ho.mono hex (.refl _ _) (λe=>absurd e aB)
        cases ee with
        |normal=>
         obtain⟨ρ1,S2,e1,e2,fe,dx⟩:=ho;subst e1;simp only[aS] at hx;subst hx;obtain⟨M,hM,uj⟩:=lx S2 ρ1 a' w' e2 dx;obtain⟨l1,l2⟩:=hl M hM;subst l1 l2;exact⟨_,M,rfl,hM,fe,uj.joined (PC.ev_but qi.pc O _ ρ1 eE rfl) jO nA⟩
        |exit id=>
         refine other (by simp) ?_;obtain⟨ρ1,S2,e1,_⟩:=ho;subst e1;simpa using hx
        |ret=>
         refine other (by simp) ?_;cases rm with
         |false=>obtain⟨d,e1,_⟩:=ho;subst e1;simpa using hx
         |true=>obtain⟨ρ1,S2,e1,_⟩:=ho;subst e1;simpa using hx
        |_=>exact ho.elim
   refine wpIn_cond cH ?_;cases b with
   |true=>
    simp only[zyx] at bX;cases eE:q.pc.ev Z N O with
    |none=>rw[eE] at bX;simp at bX
    |some xi=>
     rw[eE] at bX;refine fin c1 q xi (λy hy=>kE _ hy) (λt ht=>?_) (λj hj=>qZ.2 (.inl (sn.2 j hj))) su eE bX (wy rm S _ hq rd w0 σ0 wr O xi a w iw hC hY eN hn hg eE);rw[gu,sn.1 t ht];rfl
   |false=>
    simp only[zyw] at bX;cases eE:p.pc.ev Z N O with
    |none=>rw[eE] at bX;simp at bX
    |some xi=>
     rw[eE] at bX;refine fin c2 p xi (λy hy=>ld _ hy) (λt ht=>?_) (λj hj=>qZ.2 (.inr (E0.2 j hj))) oE eE bX (kT rm S _ hp rd w0 σ0 wr O xi a w iw hC hY fL hn hg eE);rw[gu,E0.1 t ht,oY]
  have su:∀S1 ρ1 a w,q.out=some S1->Good C w0 σ0 (S1.st ids) ρ1 (λ_=>False) a w->∃M,nI q.out p.out=some M/\Good C w0 σ0 (M.st ids) ρ1 (λ_=>False) a w:=by
   intro S1 ρ1 a w e1 g1;rw[e1];obtain⟨M,hM⟩:=@acr S1 p.out;exact⟨M,hM,acp g1 hM⟩
  have oE:∀S1 ρ1 a w,p.out=some S1->Good C w0 σ0 (S1.st ids) ρ1 (λ_=>False) a w->∃M,nI q.out p.out=some M/\Good C w0 σ0 (M.st ids) ρ1 (λ_=>False) a w:=by
   intro S1 ρ1 a w e1 g1;rw[e1];obtain⟨M,hM⟩:=@acs q.out S1;exact⟨M,hM,acq g1 hM⟩
  cases hm:nI q.out p.out with
  |none=>
   rw[hm] at su oE;simp only[hm] at he ⊢;exact main none [] [] _ rfl (λM e=>by cases e) su oE he
  |some M=>
   rw[hm] at su oE;simp only[hm] at he ⊢;exact main (some M) _ _ _ rfl (λM' e=>by cases e;exact⟨rfl,rfl⟩) su oE he
 |block id c1=>
  have wy:=IH c1 (by simp at hc;omega);intro rm S r h rd w0 σ0 wr O x a w iw hC hY jm hn hg he;simp only[comp] at h;cases dy:Nat.beq id du<;>simp only[dy,zyx,zyw] at h
  case true=>cases h;exact absurd he (nR _ _ _ _)
  have KJ:id≠du:=λe=>by subst e;simp at dy
  simp only[aC] at h;obtain⟨q,hq,rfl⟩:=h;obtain⟨xi,eE⟩:=Yi he;exact wpIn_block (wpIn_mono (wy rm S _ hq rd w0 σ0 wr O xi a w iw hC hY jm hn hg eE) λe a' w' gM=>Yk KJ (vE c1 hq) eE he gM)
 |loop c1=>
  have wy:=IH c1 (by simp at hc;omega);intro rm S r h rd w0 σ0 wr O x a w iw hC hY jm hn hg he;rw[YJ] at h;split at h
  .rename_i qb Fa;obtain⟨p,code,ws⟩:=qb;unfold yZ at Fa;split at Fa
   case h_2=>cases Fa
   rename_i cx cy ck cz cc;simp only[aC] at Fa;obtain⟨p',aT,ep⟩:=Fa;cases ep;exact aqP aT (IH _ (by simp at hc;omega)) h iw hC hY jm hn hg he
  split at h
  case h_2=>cases h;exact absurd he (nR _ _ _ _)
  rename_i q hq;cases h;obtain⟨hs,BA,bp⟩:=FA (C:=C) (w0:=w0) (σ0:=σ0) (ids:=ids) 8 hq;have sn:=vE c1 hs;simp only[PC.ev] at he
  have BB:Good C w0 σ0 (q.1.st ids) (O.put (lF q.1 q.2.mr) ((lF q.1 q.2.mr).map O.r) (kq ids q.1 q.2.mo) ((kq ids q.1 q.2.mo).map O.o)) (λ_=>False) a w:=by
   exact Good.joined (bp hg) (.refl O q.2.pc.modR q.2.pc.modO) sn.1 sn.2
  have key:∀(k:Nat) (ρ1:Env) (a':Act) (w:World),SameBut wr a a'->jo (q.2.pc.ev Z N) O (lF q.1 q.2.mr) (kq ids q.1 q.2.mo) k ((lF q.1 q.2.mr).map ρ1.r) ((kq ids q.1 q.2.mo).map ρ1.o)=some x->
        Good C w0 σ0 (q.1.st ids) (O.join (lF q.1 q.2.mr) (kq ids q.1 q.2.mo) ρ1) (λ_=>False) a' w->Code.roundsIn (FR rd) 0 C.P c1 (iN C w0 σ0 ids fn s rm wr a none q.2.ex x) k a' w:=by
   intro k
   induction k with
   |zero=>intro ρ1 a' w hn hl hg;simp[jo] at hl
   |succ k ih=>
    intro ρ1 a' w ki hl hg;rw[roundsIn_succ];simp only[jo] at hl;change (match q.2.pc.ev Z N (O.join (lF q.1 q.2.mr) (kq ids q.1 q.2.mo) ρ1) with|some (.next O')=>_|y=>y)=some x at hl;cases eE:q.2.pc.ev Z N (O.join (lF q.1 q.2.mr) (kq ids q.1 q.2.mo) ρ1) with
    |none=>rw[eE] at hl;simp at hl
    |some xi=>
     rw[eE] at hl;refine wpIn_mono (wy rm _ _ hs rd w0 σ0 wr _ xi a' w iw hC hY jm (ki.size.trans hn) hg eE) λe a2 w' gM=>?_;have other:e≠.normal->xi=x->iN C w0 σ0 ids fn s rm wr a none q.2.ex x e a2 w':=by
         intro aB km;subst km;exact gM.mono (λy hy=>hy) ki (λe=>absurd e aB)
     cases e with
     |normal=>
      obtain⟨ρ2,S2,e1,e2,fe,dx⟩:=gM;subst e1;simp only at hl;refine ih ρ2 a2 w' (ki.trans fe) hl ?_
      have uj:Good C w0 σ0 (q.1.st ids) ρ2 (λ_=>False) a2 w':=by
       have:=dx.meet2 (x:=q.1)
       rwa [BA S2 e2] at this
      refine uj.joined (mr':=lF q.1 q.2.mr++q.2.pc.modR) (mo':=kq ids q.1 q.2.mo++q.2.pc.modO) ?_ (λt ht=>?_) (λj hj=>?_)
      .exact((Env.but.join O ρ1 _ _).mono (λt ht=>kE _ ht) (λt ht=>kE _ ht)).trans
        ((PC.ev_but q.2.pc _ _ ρ2 eE rfl).mono (λt ht=>ld _ ht) (λt ht=>ld _ ht))
      .exact(dm.1 ht).elim Ly (sn.1 t)
      .exact(dm.1 hj).elim B3 (sn.2 j)
     |exit id=>
      refine other (by simp) ?_;obtain⟨ρ1,S2,e1,_⟩:=gM;subst e1;simpa using hl
     |ret=>
      refine other (by simp) ?_;cases rm with
      |false=>obtain⟨d,e1,_⟩:=gM;subst e1;simpa using hl
      |true=>obtain⟨ρ1,S2,e1,_⟩:=gM;subst e1;simpa using hl
     |_=>exact gM.elim
  exact wpIn_loop_rounds N (key N O a w (.refl _ _) he BB)
 |exit id=>
  intro rm S r h rd w0 σ0 wr O x a w iw hC hY jm hn hg he;simp only[comp] at h;cases dy:Nat.beq id du<;>simp only[dy,zyx,zyw] at h
  case true=>cases h;exact absurd he (nR _ _ _ _)
  cases h;simp only[PC.ev,aS] at he;subst he;exact wpIn_exit ⟨O,S,rfl,λe=>by subst e;simp at dy,by simp,.refl _ _,hg⟩
 |ret=>
  intro rm S r h rd w0 σ0 wr O x a w iw hC hY jm hn hg he;simp only[comp] at h;cases rm<;>simp only[zyx,zyw] at h
  case true=>
   cases h;simp only[PC.ev,aS] at he;subst he;exact wpIn_ret ⟨O,S,rfl,by simp,.refl _ _,hg⟩
  split at h
  .rename_i e Fc;cases h;simp only[PC.ev,aS] at he;subst he;obtain⟨V,own,hv,hi⟩:=hg;exact wpIn_ret ⟨_,rfl,Inv.retD hC (λ_=>rfl) (iw rfl).2 Fc _ hi rfl,.refl _ _⟩
  .cases h;exact absurd he (nR _ _ _ _)
 |rangeFunc g ps ca cb=>exact atj jG (IH ca (by simp at hc;omega)) (IH cb (by simp at hc;omega))
 |_=>intro rm S r h rd w0 σ0 wr O x a w iw hC hY jm hn hg he;simp only[comp,aS] at h;subst h;exact absurd he (nR _ _ _ _)
def ajl {N:Nat}(jG:la C Z)(hR:N6 C n ids Z R)(c:Code):xI C Z fn s n ids R N c:=ajm jG hR _ c (Nat.lt_succ_self _)
end
end Cx
