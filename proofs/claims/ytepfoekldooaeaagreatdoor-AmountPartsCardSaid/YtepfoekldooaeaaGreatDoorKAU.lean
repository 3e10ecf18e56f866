/-
  AmountParts and AmountCosts, walked.
-/
import Derived.Test.YtepfoekldooaeaaGreatDoorKAR
set_option linter.unusedSimpArgs false
set_option linter.unusedVariables false
namespace Rm
open Go Go.Proofs Cx
theorem azm {r:Realm}(hh:sc r)(city:Int){d:Int}(h0:0≤d)(hd:d≤100001):(mV r city d).2=0→0≤(mV r city d).1∧(mV r city d).1≤100000:=by
 unfold mV;generalize r.cities.getD city.toNat default=c;generalize fC r city=o;have key:∀(n:Nat) (d:Int),0≤d→d≤100001→(100002-d).toNat≤n→(qE r c o n d).2=0→0≤(qE r c o n d).1∧(qE r c o n d).1≤100000:=by
  intro n
  induction n with
  |zero=>intro d h0 h1 h2;omega
  |succ n ih=>
   intro e h1 h2 h3;have xY:=Tu hh o (100002-e).toNat e h2;rw[ags];change e≤iO r o e∧iO r o e≤100001 at xY;generalize iO r o e=x at*;have ns:=acQ (c:=c) (d:=x);by_cases he:(gU c x).2=0
   ·obtain⟨g1,g2,g3⟩:=ns he;rw[if_neg (by simp[he])];by_cases hy:(gU c x).1=x
    ·rw[if_pos hy];intro _;have e1:((x,0):Int×Int).1=x:=rfl;omega
    ·rw[if_neg hy];exact ih _ (by omega) (by omega) (by omega)
   ·rw[if_pos he];intro h;cases h
 exact key _ d h0 hd (Nat.le_refl _)
def EF (d:D):Prop:=∃n e:Int,d=.tup [.int n,.int e]∧(e=0→0≤n∧n≤100000)
@[simp] theorem aEM (n e:Int):EF (.tup [.int n,.int e])↔(e=0→0≤n∧n≤100000):=by
  constructor
  ·rintro⟨a,b,h,h2⟩;injection h with h
   injection h with h3 h
   injection h with h4 h
   injection h3 with h3
   injection h4 with h4
   injection h3 with _ h3
   injection h4 with _ h4
   subst h3;subst h4;exact h2
  ·exact fun h=>⟨n,e,rfl,h⟩
theorem ahb (r:Realm)(hr:RightD r)(b:Bill)(seen cZ:Int):∃d,aj T CU [aZ r,dp b,.int seen,.int cZ] d∧EF d:=by
 have Zr:D.agg [D.int b.tenor.kind,D.int b.tenor.n,D.int b.tenor.unit]=pK b.tenor:=rfl;have ff:=D3 r hr.small;refine aj.ex_of_tree rfl Nd Vk ?_;simp[Er];refine⟨_,ff,?_⟩;by_cases h0:eB r=0
 case neg=>simp[h0]
 simp[h0];refine⟨_,yk r b.city,?_⟩;cases h1:aF b.city r.cities.length
 ·simp[h1]
 simp[h1];refine⟨_,yk r b.pay,?_⟩;cases h2:aF b.pay r.cities.length
 ·simp[h2]
 simp[h2];refine⟨_,tp b.day,?_⟩;cases h3:fb b.day
 ·simp[h3]
 simp[h3];intro _ _ _ _;have hp:0≤b.pay∧b.pay<r.cities.length:=by simpa [aF] using h2
 have fin:0≤cZ→cZ≤20000→∃d,aj T CV [aZ r,dp b,D.int seen] d∧
  if(d.tget 1).i=0 then ∃d1,aj T Ij [d.tget 0] d1∧(d1.b=true→IntKind.i64.wrap ((d.tget 0).i+cZ)≤100000→
        ∃d2,aj T Ik [aZ r,D.int b.pay,D.int (IntKind.i64.wrap ((d.tget 0).i+cZ))] d2∧EF (D.tup [d2.tget 0,d2.tget 1]))
  else EF (D.tup [D.int 0,d.tget 1]):=by
  intro oB gR;obtain⟨n,e,h⟩:=WA r hr b seen;refine⟨_,h,?_⟩;by_cases he:e=0
  ·simp[he];refine⟨_,tp n,?_⟩;cases hd:fb n
   ·simp[hd]
   have dH:0≤n∧n≤100000:=by simpa [fb] using hd
   have hw:IntKind.i64.wrap (n+cZ)=n+cZ:=aW (by omega);simp[hd,hw];intro hle;refine⟨_,To r hr.halts b.pay (n+cZ) hp hr.cities (by omega) (by omega),?_⟩;simp;exact azm hr.halts b.pay (by omega) (by omega)
  ·simp[he]
 by_cases hs:seen=-1
 ·simp[hs] at fin ⊢;intro oB gR;refine⟨_,zI b.tenor,?_⟩;simp;intro _;exact fin oB gR
 ·simp[hs] at fin ⊢;refine⟨_,tp seen,?_⟩;cases hk:fb seen
  ·simp[hk]
  simp[hk];intro oB gR;exact⟨⟨_,zI b.tenor⟩,fin oB gR⟩
theorem anV {r:Realm}(hr:RightD r)(b:Bill)(seen cZ:Int):(m9 r b seen cZ).2=0→0≤(m9 r b seen cZ).1∧(m9 r b seen cZ).1≤100000:=by
 obtain⟨d,h1,n,e,rfl,h⟩:=ahb r hr b seen cZ;have h2:=h1.det (MU r hr b seen cZ);simp at h2;rw[←h2.1,←h2.2];exact h
theorem anU {r:Realm}(hd:RightD r)(forum:Int)(f:File)(day:Int):bX r forum f day=-1∨(0≤bX r forum f day∧bX r forum f day≤100000):=by
 unfold bX;split
 ·exact .inl rfl
 split
 ·exact .inl rfl
 ·rename_i h;exact .inr (anV hd _ _ _ (Decidable.not_not.mp h))
theorem ag5 (r:Realm)(hr:r.OK)(forum:Int)(f:File)(nj:f.OK)(sign day:Int):aj T abr [aZ r,.int forum,bT f,.int sign,.int day] (.bool true):=by
 refine .of_tree rfl ai2 aAz ?_;simp[Uh];obtain⟨d,hd,b,rfl,hb⟩:=Bt r hr f nj;refine⟨_,Me,_,hd,?_⟩;cases b
 ·simp
 obtain⟨hg,hP⟩:=hb rfl;have G:=BF hr hg;have ff:eB r=0:=by simp[ot] at hg;exact hg.2
 have hO:=C1 G ff hP;have hf:=hO.few;simp;have k1:=qL r forum f sign day hO;have k2:=MV r hO.right hO.rightD forum f sign day hf;have k3:=MX r hO.right hO.rightD forum f day hf;have hOK:=GI r forum hO.sums sign day;have au1:=LH hO.realm;have xR:=anU hO.rightD forum f day;have bL:(bm r forum f sign day).interest=if bX r forum f day≠-1∧bX r forum f day≤min day 100000 then kK (bA r forum f sign day).1.sum (bm r forum f sign day).rateF (bX r forum f day) (min day 100000) else 0:=by
  unfold Due.interest Due.now;simp only[Bool.and_eq_true,decide_eq_true_eq];rfl
 have hxd:¬(bX r forum f day≠-1∧bX r forum f day≤min day 100000)→(bm r forum f sign day).exch (rateF r)=0:=by
  intro h;unfold Due.exch Due.now;simp only[Bool.and_eq_true,decide_eq_true_eq];exact if_neg fun e=>h e.1
 have CA:=XC hOK au1;have Pc:=HY (bA r forum f sign day).1.sum (bm r forum f sign day).rateF (bX r forum f day) (min day 100000);have mz:kK (bA r forum f sign day).1.sum (bm r forum f sign day).rateF (bX r forum f day) (min day 100000)≤1099511627776:=by unfold kK;split<;>omega
 have BS:=GG (l:=(aG f day).acts) fun a ha=>hO.acts a ((List.takeWhile_sublist _).subset ha);have hs:=GJ r forum hO.sums sign day;have hq:f.bill.rate≠0→(bm r forum f sign day).rateF=f.bill.rate:=fun h=>if_neg h;refine⟨_,k1,?_⟩;simp;refine⟨_,k2,?_⟩;simp;have hu:bY r forum f sign day=if(bA r forum f sign day).2=false then tH else⟨(bA r forum f sign day).1.sum,(bm r forum f sign day).interest,eg (aG f day).acts,(bm r forum f sign day).exch (rateF r),0,min 1099511627776 ((bA r forum f sign day).1.sum+(bm r forum f sign day).interest+eg (aG f day).acts+(bm r forum f sign day).exch (rateF r)),f.bill.currency⟩:=rfl;have HV:(bm r forum f sign day).exch (rateF r)≤(bA r forum f sign day).1.sum:=CA.2;have yg:=CA.1;rw[hu];generalize (bm r forum f sign day).interest=i at*;generalize (bm r forum f sign day).exch (rateF r)=x at*;generalize (bm r forum f sign day).rateF=q at*;generalize eg (aG f day).acts=c at*;cases he:(bA r forum f sign day).2
 ·simp[tH]
 simp;generalize (bA r forum f sign day).1.sum=s at*;have vn:(if(100000:Int)<day then(100000:Int) else day)=min day 100000:=CQ day 100000;have vp:(if(100000:Int)<day then D.int 100000 else D.int day)=D.int (min day 100000):=Ig day 100000;have hib:0≤i∧i≤1099511627776:=by rw[bL];split<;>omega
 have gA:IntKind.i64.wrap (s+i)=s+i:=aW (by omega);have fl:IntKind.i64.wrap (s+i+c)=s+i+c:=aW (by omega);have Cy:IntKind.i64.wrap (s+i+c+x)=s+i+c+x:=aW (by omega);refine⟨_,k3,⟨⟨⟨⟨?_,hib.1⟩,BS.1⟩,yg⟩,?_⟩⟩
 ·rw[gA,fl,Cy];split<;>omega
 simp only[vn,vp,xp];have gw:min day 100000≤100000:=by omega
 generalize min day 100000=e at*;generalize bX r forum f day=m at*;by_cases hm:m=-1∨e<m
 ·have h1:¬(m≠-1∧m≤e):=by omega
  rw[if_neg h1] at bL;simp[hm,bL,hxd h1]
 ·have h1:m≠-1∧m≤e:=by omega
  rw[if_pos h1] at bL;rw[if_neg hm];intro PN;rw[hq PN] at bL;refine⟨_,V4 s f.bill.rate m e,?_⟩;have kG:jG s f.bill.rate m e=true:=Bu.2 ⟨by omega,hO.sums.rate,by omega,by omega,by omega⟩;unfold vI;unfold kK at bL;rw[if_pos kG] at bL;simp only[kG];by_cases OU:1099511627776<pg s f.bill.rate m e
  ·have:i=1099511627776:=by omega
   simp[OU,this]
  ·have:i=pg s f.bill.rate m e:=by omega
   simp[OU,this]
end Rm
